import PyProof.Rows.All
import HandS.HeadHook4
import HandS.HeadEnd
import HandS.Head2
import HandS.Words
import Open.Seg
import Wide.Once
import PySem.Challenge.RW_sameentries_k40_errors
import HandS.ForMost
import HandS.ForExc
import HandS.Wide
import HandS.TupAny
import HandS.TupLe
import HandS.Style
import HandS.Zip
import HandS.NoneIn
import HandS.IsInst
import HandS.Walk
import HandS.Deep
import KE.SortData
import HandS.Lambda
import HandS.Strs
import HandS.TupSets
import KE.KeyNested
import HandS.Text
import HandS.Dict
import KE.KDictKeyed
import HandS.TupMul
import HandS.Conv
import KE.KDictPairs
import PyProof.ListMulAny
import KE.KEqDict
import KE.KDictWalk
import KE.KDictSum
import KE.DataCmp
import PyProof.TupleOfStr
import PyProof.Transfer
import KE.GoesMore
import KE.GoesZip
import KE.GoesEnum
import PyProof.SeqIndex
import KE.KRevSl
import HandS.Defaults
import KE.KDictDisplayH
import HandS.ExcIs
import KE.KDictZip
import KE.DataMinMax
import HandS.CallRecv
import HandS.ExcValue
import HandS.DictTup
import HandS.More
import HandS.SortKw
import KE.KSortKey
import HandS.ReplaceLit
import HandS.TryOnly
import KE.KAssignIn
import HandS.Exc
import KE.GoesComp
import HandS.EndTab
import HandS.ExcBuiltin
import HandS.HotCalls
set_option Elab.async false
set_option linter.all false
set_option autoImplicit false
set_option maxRecDepth 100000
namespace Fz
open PySem PySem.Spec L2
abbrev D:=PyData
abbrev Fr':=PySem.W.Frag
mutual
def dvB (K:Fr'):Value→D→Bool
 | .none,.none=>true
 | .bool a,.bool b=>a==b
 | .int i _,.int j=>decide (i=j)
 | .str s _,.str t=>decide (s=t)&&PyData.strOk t&&decide (t.length≤sizeLine)
 |  .ref a,.tuple ds=>(match K.lookup a with
    |some ⟨.type c,none,.seq its _,_⟩=>decide (c="tuple")&&decide (its.size≤sizeLine)&&aR0 K its.toList ds
    |_=>false)
 |_,_=>false
def aR0 (K:Fr'):List Value→List D→Bool
 |us,[]=>us.isEmpty
 |  us,d::ds=>(match us with
    | []=>false
    |u::us=>dvB K u d&&aR0 K us ds)
end
def bnl:List Str:=["len","all","any","sum","int","tuple","list","sorted","set","isinstance","range","enumerate","zip","max","min","str","bool","dict"]
def a5s (K:Fr'):List DictEntry→List (D×D)→Bool
 | [],[]=>true
 |  e::es,(k,d)::kvs=>(match e.key,k with
    | .str x _,.str y=>decide (x=y)
    |_,_=>false)&&dvB K e.val d&&a5s K es kvs
 |_,_=>false
def a5t (K:Fr')(u:Value)(kvs:List (D×D)):Bool:=match u with
 |  .ref a=>(match K.lookup a with
    |some ⟨.type c,none,.dict es _,sl⟩=>decide (c="dict")&&sl.isEmpty&& !(a==sysModules)&&a5s K es.toList kvs
    |_=>false)
 |_=>false
def bv0 (K:Fr')(x:Str)(d:D):Bool:=match PySem.W.nsIn K mainGlobals x with
 |  some (some u)=>(match d with
    | .dict kvs=>a5t K u kvs
    |d=>dvB K u d)
 |_=>false
def a1i (glo:List (Str×D))(exs:List (Str×Nat))(fs:List Str)(K:Fr'):Bool:=
 (glo.all fun p=>bv0 K p.1 p.2)&&(exs.all fun p=>(He.Fa.exc p.1).ok K&&(He.Fa.glo p.1).ok K)&&(bnl.all fun x=>(He.Fa.free x).ok K)&&(fs.all fun x=>(He.Fa.glo x).ok K)
def aR1 (r:Option (Option Value))(s:String):Bool:=match r with
 |some (some (.builtin t))=>t==s
 |_=>false
def a5v (r:Option (Option Value)):Bool:=match r with
 |some none=>true
 |_=>false
def a1l (K:Fr')(D:Addr):Bool:=aR1 (PySem.W.findIn K (.ref D) "__getattribute__") "BaseException.__getattribute__"&&a5v (PySem.W.findIn K (.ref D) "__getattr__")&&decide (PySem.W.subIn K (.ref D) (.type "BaseException")=some true)&&PySem.W.hasDictIn K D&&
 aR1 (PySem.W.findIn K (.ref D) "__class__") "object.__class__"&&aR1 (PySem.W.specialIn K (.builtin "object.__class__") "__get__") "getset_descriptor.__get__"&&decide (PySem.W.takesIn K (.builtin "object.__class__")=some true)&&decide (PySem.W.mroIn K D (.type "object")=some true)
def a1m (K:Fr')(D:Addr):List Addr→Option (List Bool)
 | []=>some []
 |  c::cs=>(match PySem.W.kitOne K (.ref D) (.ref c),a1m K D cs with
    |some b,some bs=>some (b::bs)
    |_,_=>none)
def a5w:List Bool→Option Nat
 | []=>none
 |true::_=>some 0
 |false::r=>(a5w r).map (· +1)
def a5x (K:Fr')(C:Nat→Addr)(t:Nat×List Nat×List (Nat×Nat)):Bool:=t.2.2.all fun p=>a1l K (C p.1)&&decide (PySem.W.exmOne K (.ref (C p.1)) (.ref (C t.1))=some true)&&(match a1m K (C p.1) (t.2.1.map C)with
 |some bs=>decide (a5w bs=some p.2)
 |none=>false)
def cAd (K:Fr')(exs:List (Str×Nat))(k:Nat):Addr:=match exs.find? (fun p=>p.2==k)with
 |some p=>He.ga K p.1
 |none=>0
def thB (xs:List Str)(K:Fr'):Bool:=xs.all fun x=>decide (PySem.W.exmOne K (.ref (He.ga K x)) (.ref (He.ga K x))=some true)
def a5y (tfs:List (Str×Str))(K:Fr'):Bool:=decide ((tfs.map fun p=>(He.cT K (p.1,none)).2).Nodup)
end Fz
namespace Fz
open PySem PySem.Spec L2 PyProof.Rows
def aI9 (K:Fr')(C:Nat→Addr)(cls:List (Nat×Str))(kns:List Nat)(ce:Nat):Bool:=cls.all fun p=>a1l K (C p.1)&&decide (PySem.W.kitOne K (.ref (C p.1)) (.type "ValueError")=some true)&&decide (PySem.W.exmOne K (.ref (C p.1)) (.ref (C ce))=some true)&&
 kns.all fun n=>decide (PySem.W.kitOne K (.ref (C p.1)) (.ref (C n))=some (n==p.1))
def a5z (exs:List (Str×Nat))(cls:List (Nat×Str))(kns:List Nat)(ce:Nat)(K:Fr'):Bool:=aI9 K (cAd K exs) cls kns ce&&(He.Fa.free "ValueError").ok K
end Fz
noncomputable section
namespace Hs
open PySem PySem.W PySem.Calls PyProof.Rows HandSHeadRun
section
variable (st:SharedT→Thread→Option (SharedT×Thread)) (n0:Nat) (ann:Option Value)
def aJ0 (b:Nat):Nat→SharedT→Thread→Option (Flow×SharedT×Code×Pos)
 |0,_,_=>none
 |  m+1,s,t=>match endAt b t with
    |some f=>some (f,s,t.code,t.pos)
    |none=>match stepOk n0 ann t with
     |false=>none
     |true=>match st s t with
      |some (s',t')=>frS s' fun s'=>aJ0 b m s' t'
      |none=>none
def aE0:Nat→SharedT→Thread→Option (SharedT×Thread)
 |0,_,_=>none
 |  m+1,s,t=>match through t with
    |true=>none
    |false=>match t.stack.length==1 with
     |true=>some (s,t)
     |false=>match stepOk n0 ann t with
      |false=>none
      |true=>match st s t with
       |some (s',t')=>frS s' fun s'=>aE0 m s' t'
       |none=>none
end
section
variable {p:Program} {w:World} {n0:Nat} {ann:Option Value}
theorem bv1 {b:Nat}: ∀ {m:Nat} {s s':SharedT} {t:Thread} {f:Flow} {c:Code} {q:Pos},aJ0 (stepT (denote treeTable) p w) n0 ann b m s t=some (f,s',c,q)→segRun treeTable p w n0 ann b m s.abs t=some (f,s'.abs,c,q)
 |0,_,_,_,_,_,_,h=>by cases h
 |m+    1,s,s',t,f,c,q,h=>by
  unfold aJ0 at h
  unfold segRun
  cases he:endAt b t with
  |some x=>
   rw[he]at h
   cases h
   rfl
  |none=>
   rw[he]at h
   cases hk:stepOk n0 ann t with
   |    false=>
        rw[hk]at h
        cases h
   |    true=>
        rw[hk]at h
        cases hs:stepT (denote treeTable) p w s t with
        |none=>
         rw[hs]at h
         cases h
        |some r=>
         obtain⟨s2,t2⟩:=r
         rw[hs]at h
         have h3:(frS s2 fun s'=>aJ0 (stepT (denote treeTable) p w) n0 ann b m s' t2)=some (f,s',c,q):=h
         rw[frS_eq]at h3
         have q3:=bv1 h3
         rw[stepT_spec hs]
         exact q3
theorem bv4: ∀ {m:Nat} {s s':SharedT} {t t':Thread},aE0 (stepT (denote treeTable) p w) n0 ann m s t=some (s',t')→ ∃k,k≤m∧ ∀N r,topRun treeTable p w n0 ann N s'.abs t'=some r→topRun treeTable p w n0 ann (k+N) s.abs t=some r
 |0,_,_,_,_,h=>by cases h
 |m+    1,s,s',t,t',h=>by
  unfold aE0 at h
  cases ht:through t with
  |true=>
   rw[ht]at h
   cases h
  |false  =>
   rw[ht]at h
   cases hl:t.stack.length==1 with
   |    true=>
        rw[hl]at h
        cases h
        exact⟨0,Nat.zero_le _,fun N r z=>by rw[Nat.zero_add];exact z⟩
   |    false=>
        rw[hl]at h
        cases hk:stepOk n0 ann t with
        |false=>
         rw[hk]at h
         cases h
        |true=>
         rw[hk]at h
         cases hs:stepT (denote treeTable) p w s t with
         |none=>
          rw[hs]at h
          cases h
         |some x=>
          obtain⟨s2,t2⟩:=x
          rw[hs]at h
          have h3:(frS s2 fun s'=>aE0 (stepT (denote treeTable) p w) n0 ann m s' t2)=some (s',t'):=h
          rw[frS_eq]at h3
          obtain⟨k,hk2,q⟩:=bv4 h3
          refine⟨k+1,Nat.succ_le_succ hk2,fun N r z=> ?_⟩
          rw[show k+1+N=k+N+1 by omega]
          unfold topRun
          rw[ht,hk,stepT_spec hs]
          exact q N r z
end
def obj (T:BT)(a:Addr):Obj:=match T.get a with
 |some o=>o
 |none=>default
def adr:Value→Addr
 | .ref a=>a
 |_=>0
def bv7:Data→Array Value
 | .fields vs=>vs
 |_=> #[]
def strOf:Value→Str
 | .str f _=>f
 |_=>Str.empty
def natOf:Value→Nat
 | .int i _=>i.toNat
 |_=>0
def texts:Nat→List Str→List Value
 |_,[]=>[]
 |t,x::r=> .str x t::texts (t+1) r
def tupO (vs:List Value):Obj:= { cls:= .type "tuple",data:= .seq vs.toArray }
def a5A (h:Int)(key v:Value):Obj→Obj
 |⟨c,d,.dict es n,s⟩=>⟨c,d,.dict ⟨es.toList++[⟨h,key,v⟩]⟩ (n+1),s⟩
 |o=>o
def a5B (name:Str)(o:Obj):Value:=match o.data with
 |  .dict es _=>match nsNameIn name.cps.size name.cps.toList es.toList false with
    |(some e,_)=>e.val
    |_=> .none
 |_=> .none
def b5v (w:World)(env:Env)(s:SharedT)(name bind:Str)(args:Arguments)(body:List Stmt)(scope:Scope)(pos:Pos):SharedT:=match s with
 |  ⟨T,n,life,gens,drawn,toks,os⟩=>
    let vs:=bv7 (obj T (adr env.code)).data
    let file:=strOf (vs.getD 18 .none)
    let text:=natOf (vs.getD 10 .none)
    let places:=adr (vs.getD 11 .none)
    let qual:=qualnameIn env name bind
    let c:CodeContext:=⟨file,0,false,text⟩
    let t0:=toks+3
    let T1:=T.ins n (tupO [])
    let T2:=T1.ins (n+1) { cls:= .none,data:= .fields #[] }
    let(T3,n3,t3,v1,v2):=match localNames args scope (.stmts body)with
     |some l=>((T2.ins (n+2) (tupO (texts t0 l.1))).ins (n+3) (tupO (texts (t0+l.1.length) l.2)),n+4,t0+l.1.length+l.2.length,Value.ref (n+2),Value.ref (n+3))
     |none=>(T2,n+2,t0,Value.none,Value.none)
    let fd:FuncData:= { name,qualname:=qual,params:=args,body:= .stmts body,scope,globals:=builtinsNs,closure:=[],defaults:= .none,kwdefaults:= .none }
    let T4:=T3.ins n3 { cls:= .none,data:= .func fd }
    let code:List Value:=[.str name toks,.str qual (toks+1),.str file (toks+2),rawInt pos.line,rawInt (args.posonlyargs.length+args.args.length:Nat),rawInt (args.posonlyargs.length:Nat),rawInt (args.kwonlyargs.length:Nat),
     rawInt (functionFlags args.vararg.isSome args.kwarg.isSome scope c:Nat),.ref n,.bool true,rawInt (text:Nat),.ref (n+1),.none,v1,v2,.ref n3,rawInt (t3:Nat),rawInt (pos.line:Nat),.str file (t3+1)]
    let cA:=n3+1
    let T5:=T4.ins cA { cls:= .type "code",data:= .fields code.toArray }
    let T6:=T5.set places (Obj.mapFields fun vs=>vs++ #[rawInt pos.line,rawInt pos.col,.ref cA])
    let fA:=n3+2
    let T7:=T6.ins fA { cls:= .type "function",data:= .func { fd with globals:=env.globals,code:= .ref cA,builtins:=builtinsNs,pyModule:=a5B "__name__" (obj T env.globals) } }
    let h:=if name.cps.isEmpty then 0 else reduceHash (w.params.strHash bind.cps)
    let T8:=T7.set env.locals (a5A h (.str bind (t3+2)) (.ref fA))
    ⟨T8,n3+3,life,gens,drawn,t3+3,os⟩
def bv9:List (Option Expr)→List Str
 |some (.Constant (.str x) _ _)::r=>x::bv9 r
 |_=>[]
def bw0:List Expr→List Int
 | .Constant (.int i) _ _::r=>i::bw0 r
 |_=>[]
def hsh (w:World)(x:Str):Int:=if x.cps.isEmpty then 0 else reduceHash (w.params.strHash x.cps)
def bw1 (w:World):Nat→List Str→List Int→List DictEntry
 |t,x::r,i::q=>⟨hsh w x,.str x t,.int i (t+1)⟩::bw1 w (t+2) r q
 |_,_,_=>[]
def b5w (w:World)(env:Env)(s:SharedT)(x:Str)(ks:List (Option Expr))(vs:List Expr):SharedT:=match s with
 |  ⟨T,n,life,gens,drawn,toks,os⟩=>
    let xs:=bv9 ks
    let m:=xs.length
    let T1:=T.ins n { cls:= .type "dict",data:= .dict ⟨bw1 w toks xs (bw0 vs)⟩ m }
    let T2:=T1.set env.locals (a5A (hsh w x) (.str x (toks+3*m)) (.ref n))
    ⟨T2,n+1,life,gens,drawn,toks+3*m+1,os⟩
def clsOf:Data→Option ClassData
 | .cls d=>some d
 |_=>none
def b5x (v:Value):Obj→Obj
 |⟨c,d,.cls k,s⟩=>⟨c,d,.cls { k with subclasses:=k.subclasses++[v] },s⟩
 |o=>o
def b5C (w:World)(env:Env)(s:SharedT)(name base:Str)(pos:Pos):Option SharedT:=match s with
 |  ⟨T,n,life,gens,drawn,t,os⟩=>match a5B base (obj T env.globals)with
    | .ref b=>match clsOf (obj T b).data with
      |some k=>
       let vs:=bv7 (obj T (adr env.code)).data
       let file:=strOf (vs.getD 18 .none)
       let text:=natOf (vs.getD 10 .none)
       let places:=adr (vs.getD 11 .none)
       let me:Value:= .ref (n+9)
       let nm:=a5B "__name__" (obj T env.globals)
       let e1:DictEntry:=⟨hsh w "__module__",.str "__module__" (t+7),nm⟩
       let e2:DictEntry:=⟨hsh w "__qualname__",.str "__qualname__" (t+9),.str name (t+8)⟩
       let e3:DictEntry:=⟨hsh w "__firstlineno__",.str "__firstlineno__" (t+11),.int pos.line (t+10)⟩
       let e4:DictEntry:=⟨hsh w "__static_attributes__",.str "__static_attributes__" (t+12),.ref (n+7)⟩
       let e5:DictEntry:=⟨hsh w "__doc__",.str "__doc__" (t+13),.none⟩
       let code:List Value:=[.str name (t+2),.str name (t+3),.str file (t+4),rawInt pos.line,rawInt 0,rawInt 0,rawInt 0,rawInt 0,.ref (n+3),.bool false,rawInt (text:Nat),.ref (n+4),.none,.none,.none,.none,rawInt (t+5:Nat),rawInt pos.line,.str file (t+6)]
       let T1:=T.ins n (tupO [.ref b])
       let T2:=T1.ins (n+1) { cls:= .type "builtin_function_or_method",data:= .fields #[.builtin "type.__prepare__",.type "type"] }
       let T3:=T2.ins (n+2) { cls:= .type "dict",data:= .dict #[e1,e2,e3,e4] 4 }
       let T4:=T3.ins (n+3) (tupO [])
       let T5:=T4.ins (n+4) { cls:= .none,data:= .fields #[] }
       let T6:=T5.ins (n+5) { cls:= .type "code",data:= .fields code.toArray }
       let T7:=T6.set places (Obj.mapFields fun vs=>vs++ #[rawInt pos.line,rawInt pos.col,.ref (n+5)])
       let T8:=T7.ins (n+6) { cls:= .type "frame",slots:= #[some (.ref (n+5)),some (.ref env.globals),some (.ref (n+2)),none,some nm,none,some (.ref builtinsNs)] }
       let T9:=T8.ins (n+7) (tupO [])
       let T10:=T9.ins (n+8) { cls:= .type "dict",data:= .dict #[e1,e3,e4,e5] 2 }
       let T11:=T10.ins (n+9) { cls:= .type "type",data:= .cls { name,bases:=[.ref b],mro:=me::k.mro,ns:=n+8,qualname:=name },slots:= #[some (.ref n),none,some (.str name t),some (.str name (t+8)),some (.builtin "ValueError.__new__"),some (.bool true)] }
       let T12:=T11.set b (b5x me)
       let T13:=T12.ins (n+10) { cls:= .type "super",data:= .fields #[me,me,me] }
       let T14:=T13.ins (n+11) { cls:= .type "builtin_function_or_method",data:= .fields #[.builtin "object.__init_subclass__",me] }
       let T15:=T14.set env.locals (a5A (hsh w name) (.str name (t+15)) me)
       some ⟨T15,n+12,life,gens,drawn,t+16,os⟩
      |none=>none
    |_=>none
def envOf (p:Program):Env:= { scope:=p.main.scope,locals:=mainNs,globals:=mainNs,cells:=[],code:= .ref 13,frame:=some 14 }
def cOf (p:Program):Code:= .body (behindTheImports p) (envOf p)
abbrev Bk:List Frame:=[topFrame ⟨0,0,0,0⟩]
abbrev ag1:Option Value:=some (.ref 6)
def quick (dp:List Str)(w:World)(env:Env)(s:SharedT):Stmt→Option (SharedT×Pos)
 |  .FunctionDef name args body [] none [] scope none bind pos=>match dp.any (· ==bind)with
    |true=>none
    |false=>some (b5v w env s name bind args body scope pos,pos)
 | .Assign [.Name x q] (.Dict ks vs _) _=>some (b5w w env s x ks vs,q)
 |  .ClassDef name [.Name base _] [] [.Pass _] [] [] _ none _ [] pos=>match b5C w env s name base pos with
    |some s'=>some (s',pos)
    |none=>none
 |_=>none
abbrev stQ (p:Program)(w:World):SharedT→Thread→Option (SharedT×Thread):=stepQ (denQ tabQ) p w
def a5C (dp:List Str)(p:Program)(w:World):List Stmt→SharedT→Pos→SharedT×Pos
 | [],s,q=>(s,q)
 |  st::r,s,q=>match quick dp w (envOf p) s st with
    |some (s',q')=>frS s' fun s'=>a5C dp p w r s' q'
    |none=>match aJ0 (stQ p w) 11 ag1 1 6000 s (pieceOf st (envOf p) (cOf p) q Bk)with
     |some (_,s',_,q')=>a5C dp p w r s' q'
     |none=>(s,q)
def am0 (p:Program)(w:World)(os:OsState):SharedT×Pos:=match putAll (boot_heap w.params).objs.toList .nil 0 with
 |  some (t,n)=>match aE0 (stQ p w) 11 ag1 60 (bootT w os (t,n)) (topStub p)with
    |some (s,th)=>frS s fun s=>(s,th.pos)
    |none=>(bootT w os (t,n),default)
 |none=>(bootT w os (.nil,0),default)
def ak0 (dp:List Str)(p:Program)(w:World)(l:List Stmt)(x:SharedT×Pos):SharedT×Pos:=a5C dp p w l x.1 x.2
def a1n (p:Program)(w:World)(os:OsState):Prop:=(match putAll (boot_heap w.params).objs.toList .nil 0 with
 |some (t,n)=>aE0 (stQ p w) 11 ag1 60 (bootT w os (t,n)) (topStub p)
 |none=>none)=some ((am0 p w os).1,⟨denQ tabQ (cOf p),cOf p,(am0 p w os).2,Bk⟩)
def ae6 (dp:List Str)(p:Program)(w:World)(m:Nat)(l:List Stmt)(x:SharedT×Pos):Prop:=
 aJ0 (stQ p w) 11 ag1 1 m x.1 (piecesOf l (envOf p) (cOf p) x.2 Bk)=some (.next,(ak0 dp p w l x).1,cOf p,(ak0 dp p w l x).2)
section
variable {dp:List Str} {p:Program} {w:World}
theorem bw2:stepT (denote treeTable) p w=stQ p w:=by
 show _=stepQ (denQ tabQ) p w
 rw[←stepQ_eq,←denQ_eq,←tabQ_eq]
theorem b5D {m N:Nat}{l rest:List Stmt}{x:SharedT×Pos}{r:Shared}(h:ae6 dp p w m l x)
  (k:topRun treeTable p w 11 ag1 N (ak0 dp p w l x).1.abs (restOf rest (envOf p) (cOf p) (ak0 dp p w l x).2 Bk)=some r):
  topRun treeTable p w 11 ag1 (m+N) x.1.abs (restOf (l++rest) (envOf p) (cOf p) x.2 Bk)=some r:=by
 unfold ae6 at h
 rw[←bw2]at h
 exact piece_app (bv1 h) k
theorem ax7 {m N k:Nat}{rs:List Stmt}{x:SharedT×Pos}{r:Shared}(h:ae6 dp p w m (rs.take k) x)
  (g:topRun treeTable p w 11 ag1 N (ak0 dp p w (rs.take k) x).1.abs (restOf (rs.drop k) (envOf p) (cOf p) (ak0 dp p w (rs.take k) x).2 Bk)=some r):
  topRun treeTable p w 11 ag1 (m+N) x.1.abs (restOf rs (envOf p) (cOf p) x.2 Bk)=some r:=by
 have z:=b5D h g
 rwa [List.take_append_drop]at z
theorem b5E {x:SharedT×Pos}:topRun treeTable p w 11 ag1 4 x.1.abs (restOf [] (envOf p) (cOf p) x.2 Bk)=some x.1.abs:=by
 obtain⟨⟨T,n,life,gens,drawn,toks,os⟩,q⟩:=x
 rfl
theorem b5F {os:OsState}{N:Nat}{r:Shared}(f:a1n p w os)(hb:blockOf (behindTheImports p) (envOf p) (cOf p) (am0 p w os).2 Bk=⟨.pure (.done .next),cOf p,(am0 p w os).2,Bk⟩)
  (k:topRun treeTable p w 11 ag1 N (am0 p w os).1.abs (restOf (behindTheImports p) (envOf p) (cOf p) (am0 p w os).2 Bk)=some r):
  ∃M,M≤60+(1+N)∧topRun treeTable p w 11 ag1 M ⟨boot_heap w.params,#[],boot_drawn,boot_toks,os⟩ (topStub p)=some r:=by
 unfold a1n at f
 cases e:putAll (boot_heap w.params).objs.toList .nil 0 with
 |none=>
  rw[e]at f
  cases f
 |some tn=>
  obtain⟨t,n⟩:=tn
  rw[e]at f
  have f1:aE0 (stQ p w) 11 ag1 60 (bootT w os (t,n)) (topStub p)=_:=f
  rw[←bw2]at f1
  obtain⟨m,hm,g⟩:=bv4 f1
  have eb:(bootT w os (t,n)).abs=⟨boot_heap w.params,#[],boot_drawn,boot_toks,os⟩:=by
   show(⟨absHeap t n (boot_heap w.params).life,#[],boot_drawn,boot_toks,os⟩:Shared)=_
   rw[putAll_heap e]
  rw[eb]at g
  have z:segRun treeTable p w 11 ag1 1 1 (am0 p w os).1.abs (blockOf (behindTheImports p) (envOf p) (cOf p) (am0 p w os).2 Bk)=some (.next,(am0 p w os).1.abs,cOf p,(am0 p w os).2):=by
   rw[hb]
   rfl
  have k2:=piece_block z k
  refine⟨m+(1+N),by omega,g _ _ ?_⟩
  have d:denQ tabQ=denote treeTable:=by rw[←denQ_eq,←tabQ_eq]
  rw[d]
  exact k2
end
theorem b5H (w:World):(boot_heap w.params).objs.size=11:=by kernel_rfl
theorem b5J (w:World):bootAnn w=ag1:=by kernel_rfl
theorem b5K {r:OpenRow}{q:Program}{H:Hook}{M:Nat}{loose:List PySem.Str}{d:DefRec}{kwd:List (PySem.Str×PySem.Expr)}{Z:World→OsState→Shared}
  (e:opening r.prog=plainProg r.prog.main.scope.names) (f: ∀s,fenceModules? r.prog s=some s)
  (run: ∀w os,∃m,m≤M∧topRun treeTable r.prog w 11 ag1 m ⟨boot_heap w.params,#[],boot_drawn,boot_toks,os⟩ (topStub r.prog)=some (Z w os))
  (looks: ∀w os,(looksF r.prog (boot_heap w.params) (Z w os),seenQ q loose (importedModules r.prog.main.body) (fun s=>xlAt q [] s&&recOk r.toRowW.records s) (Z w os),H.obs (Z w os))=(true,openGood q loose,H.val w))
  (hdef:defOf q r.name=some (d,kwd)) (hp:r.prog.theDef r.name=some (d.params,d.body,d.scope)) (hk:kwWritten? d.params.kwonlyargs d.params.kw_defaults=some kwd)
  (hwr:(!r.writes||r.records.isEmpty)=true) (k1:r.wellSaid=true) (ok:(chainsOk q&&opensWell r.prog&&(frees r.toRowW&&r.within.isEmpty))=true) (hb:r.prog.bare) (hw:r.toRowW.promised)
  (call:WalkO q loose (XL q []) H.says r.toRowW d kwd fun f vs=>PySem.call f vs):r.Holds:=by
 have left:LeftO r.prog q loose (fun s=>xlAt q [] s&&recOk r.toRowW.records s) H.obs H.val (M+600) true:=fun w=>by
  have bo:=boot_open e (show Nat.ble 600 (M+600)=true from Nat.ble_eq_true_of_le (by omega)) f w
  cases ho:fencedOpening treeTable r.prog w (M+600)with
  |none=>
   rw[ho]at bo
   cases bo
  |some s0=>
   rw[ho]at bo
   obtain⟨h,gs,d1,k,os⟩:=s0
   have bo':=Option.some.inj bo
   obtain⟨rfl,b2⟩:=Prod.mk.inj bo'
   obtain⟨rfl,b3⟩:=Prod.mk.inj b2
   obtain⟨rfl,rfl⟩:=Prod.mk.inj b3
   obtain⟨m,hm,rn⟩:=run w os
   have rm:=topRun_mono (M+600-m) _ _ _ _ rn
   rw[show m+(M+600-m)=M+600 by omega]at rm
   have lk:=looks w os
   obtain⟨l1,l23⟩:=Prod.mk.inj lk
   obtain⟨l2,l3⟩:=Prod.mk.inj l23
   have t:topFrom treeTable r.prog w (M+600) ⟨boot_heap w.params,#[],boot_drawn,boot_toks,os⟩=some (Z w os):=by
        unfold topFrom
        dsimp only
        rw[boot_ns]
        have sz:=b5H w
        have an:(boot_heap w.params).nsMap mainGlobals "__annotations__"=ag1:=b5J w
        simp only[sz,an]
        have l1':(staticsOk (importedModules r.prog.main.body) (boot_heap w.params) (Z w os).heap&&namesBound r.prog (Z w os).heap&&gensDone (Z w os)&&laidKept (boot_heap w.params) (Z w os).heap)=true:=l1
        show(topRun treeTable r.prog w 11 ag1 (M+600) ⟨boot_heap w.params,#[],boot_drawn,boot_toks,os⟩ (topStub r.prog)).bind _=_
        rw[rm]
        show(match staticsOk (importedModules r.prog.main.body) (boot_heap w.params) (Z w os).heap&&namesBound r.prog (Z w os).heap&&gensDone (Z w os)&&laidKept (boot_heap w.params) (Z w os).heap with|true=>some (Z w os)|false=>none)=_
        rw[l1']
   unfold openEnds
   rw[ho]
   show(topFrom treeTable r.prog w (M+600) ⟨boot_heap w.params,#[],boot_drawn,boot_toks,os⟩).map _=_
   rw[t]
   refine congrArg some (Prod.ext ?_ l3)
   rw[←l2,←seenQ_eq]
 exact holds_open (r:=r) (q:=q) (loose:=loose) (XP:=XL q []) (YP:=H.says) (d:=d) (kwd:=kwd) left H.of H.keeps (fun s z=>xl_of s (Bool.and_eq_true_iff.mp z).1) XL.keeps hdef hp hk (fun s z=>recFacts_of (Bool.and_eq_true_iff.mp z).2) hwr k1 ok hb hw call
end Hs
namespace Hs
open PySem PySem.Spec PySem.W He
def a1o (as:List Addr)(fn:List DefD)(ts:List Tab)(tf:List Defn)(ex:Frag→Bool)(g:Addr→Option Obj):AlX:=(obsT [] fn ts (frT g as),ex (frT g as)&&tabsB g tf (frT g as))
theorem b5L {as:List Addr}{fn:List DefD}{ts:List Tab}{tf:List Defn}{ex:Frag→Bool}{w:World}{h:Heap}(e:a1o as fn ts tf ex h.get?=valX fn ts w):SaysX [] fn ts tf ex w h (frT h.get? as):=by
 have a:obsT [] fn ts (frT h.get? as)=valT fn ts w:=congrArg Prod.fst e
 have b:(ex (frT h.get? as)&&tabsB h.get? tf (frT h.get? as))=true:=congrArg Prod.snd e
 have b1:=(Bool.and_eq_true_iff.mp b).1
 have b2:=List.all_eq_true.mp (Bool.and_eq_true_iff.mp b).2
 have tab: ∀p∈tf,codeHdIn (frT h.get? as) (cT (frT h.get? as) p).1 (cT (frT h.get? as) p).2=true∧ ∃o,h.get? (cT (frT h.get? as) p).2=some o∧emptyTab o=true:=by
  intro p hp
  have c:=b2 p hp
  cases q:h.get? (cT (frT h.get? as) p).2 with
  |none=>
   rw[q]at c
   exact absurd c (by simp)
  |some o=>
   rw[q]at c
   exact⟨(Bool.and_eq_true_iff.mp c).1,o,rfl,(Bool.and_eq_true_iff.mp c).2⟩
 refine⟨a,b1,fun p hp=>(tab p hp).1,fun p hp=> ?_,fun p hp=> ?_⟩
 ·obtain⟨o,q,z⟩:=(tab p hp).2
  exact frT_none q z
 ·obtain⟨o,q,z⟩:=(tab p hp).2
  rw[q,emptyTab_eq z]
def a5D (as:List Addr)(fn:List DefD)(ts:List Tab)(tf:List Defn)(ex:Frag→Bool):Hook where
 α:=AlX
 obs:=fun s=>a1o as fn ts tf ex s.heap.get?
 val:=fun w=>valX fn ts w
 says:=fun w h=> ∃K:Frag,K.In h∧SaysX [] fn ts tf ex w h K
 of:=fun _ _ e=>⟨_,frT_in,b5L e⟩
 keeps:=fun _ _ _ z k=>by
    obtain⟨K,hK,c⟩:=z
    exact⟨K,Frag.In.keeps hK k,c.t,c.more,c.hd,c.out,fun p hp=>k _ _ (c.empty p hp)⟩
theorem b5M {as:List Addr}{fn:List DefD}{ts:List Tab}{tf:List Defn}{ex:Frag→Bool}{w:World}{s:SharedT}(gs:List (List DefD))(hg:fn=gs.flatten)
  (h1:ex (frT (HandSHeadRun.getT s) as)=true) (h2:tabsB (HandSHeadRun.getT s) tf (frT (HandSHeadRun.getT s) as)=true)
  (h3: ∀l∈gs,(l.all fun d=>d.ok (frT (HandSHeadRun.getT s) as))=true∧(l.map fun d=>fnW (frT (HandSHeadRun.getT s) as) d.at_)=l.map DefD.val)
  (h4:(ts.map fun t=>dicW (frT (HandSHeadRun.getT s) as) (t.1 (frT (HandSHeadRun.getT s) as)))=ts.map fun t=>some (keysIn w.params t.2)):
  (a5D as fn ts tf ex).obs s.abs=(a5D as fn ts tf ex).val w:=by
 have eg:HandSHeadRun.getT s=s.abs.heap.get?:=funext fun a=>HandSHeadRun.getT_eq s a
 rw[eg]at h1 h2 h3 h4
 show a1o as fn ts tf ex s.abs.heap.get?=valX fn ts w
 have o:(fn.all fun d=>d.ok (frT s.abs.heap.get? as))=true:=by
  rw[List.all_eq_true]
  intro d hd
  rw[hg]at hd
  obtain⟨l,hl,hdl⟩:=List.mem_flatten.mp hd
  exact List.all_eq_true.mp (h3 l hl).1 d hdl
 have v:(fn.map fun d=>fnW (frT s.abs.heap.get? as) d.at_)=fn.map DefD.val:=by
  refine List.map_congr_left fun d hd=> ?_
  rw[hg]at hd
  obtain⟨l,hl,hdl⟩:=List.mem_flatten.mp hd
  exact List.map_inj_left.mp (h3 l hl).2 d hdl
 have e1:obsT [] fn ts (frT s.abs.heap.get? as)=valT fn ts w:=by
  have e0:obsT [] fn ts (frT s.abs.heap.get? as)=((true&&fn.all fun d=>d.ok (frT s.abs.heap.get? as),fn.map fun d=>fnW (frT s.abs.heap.get? as) d.at_),ts.map fun t=>dicW (frT s.abs.heap.get? as) (t.1 (frT s.abs.heap.get? as))):=rfl
  rw[e0,o,v,h4]
  rfl
 unfold a1o valX
 rw[e1,h1,h2]
 rfl
end Hs
set_option maxHeartbeats 0
namespace Lw
open PySem PySem.Spec L2 Fz
def top (i:Nat):Stmt:=PySem.Challenge.pw_sameentries_k40_errors.main.body.getD i (.Pass ⟨0,0,0,0⟩)
def mk (x:Str)(i:Nat):He.DefD:=⟨(x,none),x,x,defArgs (top i),defBody (top i),defScope (top i),[],[]⟩
def mk2 (g x:Str)(i:Nat):He.DefD:=⟨(g,none),x,x,defArgs (top i),defBody (top i),defScope (top i),[],[]⟩
def glo:List (Str×D):=[("LETTERS",(.str "abcdefghijklmnopqrstuvwxyz")),("MAX_WORD",(.int 3)),("KINDS",(.tuple [(.str "all"),(.str "shared"),(.str "least"),(.str "greatest"),(.str "agreed")])),("SINGLE",(.tuple [(.str "least"),(.str "greatest"),(.str "agreed")])),("SAME",(.str "same")),("NEAR",(.str "near")),("UNLIKE",(.str "unlike")),("FAR",(.str "far")),("BOTH",(.str "both")),("CONDITIONS",(.tuple [(.str "same"),(.str "near"),(.str "unlike"),(.str "far"),(.str "both")])),("MAX_FIELDS",(.int 3)),("MAX_RULES",(.int 3)),("MAX_TESTS",(.int 3)),("MAX_BOOK",(.int 8)),("WORD",(.str "word")),("LETTER",(.str "letter")),("MAX_KEYS",(.int 6)),("MAX_THREES",(.int 12)),("MAX_PAIRS",(.int 60))]
def exs:List (Str×Nat):=[("EntryError",0),("InvalidContent",1),("InvalidCondition",2),("InvalidKind",3),("InvalidPlan",4),("InvalidEntry",5),("InvalidBook",6),("InvalidPlace",9),("InvalidNumber",17),("InvalidTest",20),("InvalidKey",7),("InvalidKeys",8),("NoMatch",10),("TooLarge",11),("ParseError",21)]
def fn:List He.DefD:=[mk "_law_class" 239,mk "_law_all" 240,mk "is_word" 32,mk "is_content" 33,mk "check_content" 34,mk "have_word" 35,mk "have_near" 36,mk "does_hold" 37,mk "holds" 38,mk "merge_contents" 41,mk "is_rising" 49,mk "is_int" 48,mk "is_test" 50,mk "are_tests" 51,mk "are_kinds" 52,mk "is_plan" 53,mk "check_plan" 54,mk "few_entries" 217,mk "naive_three" 219,mk "is_part" 95,mk "has_key" 96,mk "have_keys" 98,mk "check_keys" 101,mk "naive_missed" 220,mk "all_entries" 68,mk "_law_first" 241,mk "has_entry" 55,mk "is_entry" 56,mk "has_book" 58,mk "is_book" 59,mk "check_entry" 57,mk "check_two" 74,mk "has_test" 70,mk "find_rules" 71,mk "rules_between" 75,mk "joined" 85,mk "rule_pair" 232,mk "is_order_free" 226,mk "lost_match" 174,mk "lost_word" 180,mk "breaking_book" 185,mk "is_key" 97,mk "are_keys" 99,mk "missed_pair" 193,mk "check_text" 123,mk "parse_entry" 126,mk "check_book" 60,mk "format_book" 133,mk "parse_keys" 136,mk "needless_rules" 233,mk "needless_bars" 235,mk "added_match" 176,mk "keeps_matches" 175,mk "adds_matches" 177,mk "goes_by_groups" 184,mk "format_plan" 130,mk "_law_second" 242,mk "count_words" 63,mk "find_bars" 72,mk "find_match" 73,mk "do_match" 77,mk "check_match" 83,mk "merged" 84,mk "two_ways" 90,mk "check_key" 100,mk "labels" 104,mk "common_labels" 107,mk "share_label" 108,mk "format_entry" 122,mk "bars_between" 76,mk "matches" 79,mk "check_place" 61,mk "step" 87,mk "groups" 183,mk "is_done" 80,mk "_law_third" 243,mk "bar_pair" 236,mk "fewest_keys" 197,mk "needless_keys" 195,mk "least_for" 209,mk2 "find_added_labelling" "find_added" 206,mk "added_label" 210,mk "miss_nothing" 194,mk "adds_labels" 211,mk "can_stay" 213,mk "format_keys" 135,mk "find_dropped" 208,mk "dropped_label" 212,mk "parse_plan" 131,mk "_law_fourth" 244,mk "_law_pick" 238,mk "law" 245]
def fs:List Str:=(["_law_class","_law_all","is_word","is_content","check_content","have_word","have_near","does_hold","holds","merge_contents","is_rising","is_int","is_test","are_tests","are_kinds","is_plan","check_plan","few_entries","naive_three","is_part"]:List Str)++(["has_key","have_keys","check_keys","naive_missed","all_entries","_law_first","has_entry","is_entry","has_book","is_book","check_entry","check_two","has_test","find_rules","rules_between","joined","rule_pair","is_order_free","lost_match","lost_word"]:List Str)++(["breaking_book","is_key","are_keys","missed_pair","check_text","parse_entry","check_book","format_book","parse_keys","needless_rules","needless_bars","added_match","keeps_matches","adds_matches","goes_by_groups","format_plan","_law_second","count_words","find_bars","find_match"]:List Str)++(["do_match","check_match","merged","two_ways","check_key","labels","common_labels","share_label","format_entry","bars_between","matches","check_place","step","groups","is_done","_law_third","bar_pair","fewest_keys","needless_keys","least_for"]:List Str)++(["find_added_labelling","added_label","miss_nothing","adds_labels","can_stay","format_keys","find_dropped","dropped_label","parse_plan","_law_fourth","_law_pick","law"]:List Str)
def loose:List Str:=(["__name__","EntryError","InvalidContent","InvalidCondition","InvalidKind","InvalidPlan","InvalidEntry","InvalidBook","InvalidPlace","InvalidNumber","InvalidTest","InvalidKey","InvalidKeys","NoMatch","TooLarge","ParseError","LETTERS","MAX_WORD","ALL","SHARED"]:List Str)++(["LEAST","GREATEST","AGREED","KINDS","SINGLE","SAME","NEAR","UNLIKE","FAR","BOTH","CONDITIONS","is_word","is_content","check_content","have_word","have_near","does_hold","holds","union","find_merged"]:List Str)++(["merge_contents","MAX_FIELDS","MAX_RULES","MAX_TESTS","MAX_BOOK","MAX_ENTRIES","is_int","is_rising","is_test","are_tests","are_kinds","is_plan","check_plan","has_entry","is_entry","check_entry","has_book","is_book","check_book","check_place"]:List Str)++(["find_count","count_words","contents_of","count_contents","count_entries","find_entries","all_entries","has_test","find_rules","find_bars","find_match","check_two","rules_between","bars_between","do_match","find_matches","matches","is_done","join_entries","check_match"]:List Str)++(["merged","joined","do_step","step","go_on","find_ways","two_ways","WORD","LETTER","MAX_KEYS","is_part","has_key","is_key","have_keys","are_keys","check_key","check_keys","values_for","find_labels","labels"]:List Str)++(["find_common","have_common","common_labels","share_label","COMMA","COLON","SLASH","SPACE","NONE","NEWLINE","MERGE","RULE","BAR","NUMBERS","join_content","join_entry","format_entry","check_text","read_content","read_entry"]:List Str)++(["parse_entry","join_test","read_test","join_plan","format_plan","parse_plan","join_book","format_book","join_keys","format_keys","parse_keys","rules_left","bars_left","flag","pair_view","count_row","make_table","meet","is_open","has_match"]:List Str)++(["put_together","least_of","as_entries","least_entries","FIRSTS","LASTS","MARKS","PLAIN","ranked","is_close","chosen","words_at","single_rows","classes","laid_out","spread_rows","lettered_rows","two_rows","three_rows","part_view"]:List Str)++(["part_table","part_states","find_lost","find_added","find_added_keeping","lost_match","keeps_matches","added_match","adds_matches","word_view","word_table","lost_word","find_groups","groups","goes_by_groups","breaking_book","is_met","keys_left","key_view","key_table"]:List Str)++(["key_states","find_missed","missed_pair","miss_nothing","needless_keys","shortest_first","fewest_keys","mode_on","is_new","is_gone","select","find_good","added_test","dropped_test","find_added_labelling","find_dropped","least_for","added_label","adds_labels","dropped_label"]:List Str)++(["can_stay","MAX_THREES","MAX_PAIRS","few_entries","is_parting","naive_three","naive_missed","order_view","order_table","has_two_ends","find_three","is_order_free","pair_tables","field_table","find_pairs","find_rule_pair","rule_pair","needless_rules","find_bar_pair","needless_bars"]:List Str)++(["bar_pair","_law_pick","_law_class","_law_all","_law_first","_law_second","_law_third","_law_fourth"]:List Str)
def trs:List (Nat×List Nat×List (Nat×Nat)):=[]
def thk:List (Str×Nat):=[]
def ths:List Str:=[]
def aR3:List (Nat×Str):=[(1,"InvalidContent"),(2,"InvalidCondition"),(3,"InvalidKind"),(4,"InvalidPlan"),(5,"InvalidEntry"),(6,"InvalidBook"),(9,"InvalidPlace"),(17,"InvalidNumber"),(20,"InvalidTest"),(7,"InvalidKey"),(8,"InvalidKeys"),(10,"NoMatch"),(11,"TooLarge"),(21,"ParseError")]
def a5E:List Nat:=[1,2,3,4,5,6,9,17,20,7,8,10,11,21]
def tfs:List (Str×Str):=[("_law_first","_law_first"),("_law_second","_law_second"),("_law_third","_law_third"),("_law_fourth","_law_fourth")]
abbrev Rw:PySem.W.OpenRow:=PySem.W.OpenLaw.row PySem.Challenge.rw_sameentries_k40_errors
abbrev see:Fr'→Bool:=(fun K=>(((a1i glo exs fs K&&trs.all fun t=>a5x K (cAd K exs) t)&&thB ths K)&&a5y tfs K)&&a5z exs aR3 a5E 0 K)
section
open PySem.W PySem.Calls PyProof.Rows
def dpn:List Str:=["find_added"]
abbrev Pgm:Program:=PySem.Challenge.pw_sameentries_k40_errors
def r0:List Stmt:=behindTheImports Pgm
noncomputable def X0 (w:World)(os:OsState):SharedT×Pos:=Hs.am0 Pgm w os
theorem b5O (w:World)(os:OsState):Hs.a1n Pgm w os:=by
 unfold Hs.a1n
 kernel_rfl
theorem b5S (w:World)(os:OsState):blockOf (behindTheImports Pgm) (Hs.envOf Pgm) (Hs.cOf Pgm) (Hs.am0 Pgm w os).2 Hs.Bk=⟨.pure (.done .next),Hs.cOf Pgm,(Hs.am0 Pgm w os).2,Hs.Bk⟩:=by kernel_rfl
def r1:List Stmt:=r0.drop 8
noncomputable def X1 (w:World)(os:OsState):SharedT×Pos:=Hs.ak0 dpn Pgm w (r0.take 8) (X0 w os)
theorem p0 (w:World)(os:OsState):Hs.ae6 dpn Pgm w 5000 (r0.take 8) (X0 w os):=by
 unfold Hs.ae6
 kernel_rfl
def r2:List Stmt:=r1.drop 7
noncomputable def X2 (w:World)(os:OsState):SharedT×Pos:=Hs.ak0 dpn Pgm w (r1.take 7) (X1 w os)
theorem p1 (w:World)(os:OsState):Hs.ae6 dpn Pgm w 5000 (r1.take 7) (X1 w os):=by
 unfold Hs.ae6
 kernel_rfl
def r3:List Stmt:=r2.drop 57
noncomputable def X3 (w:World)(os:OsState):SharedT×Pos:=Hs.ak0 dpn Pgm w (r2.take 57) (X2 w os)
theorem p2 (w:World)(os:OsState):Hs.ae6 dpn Pgm w 5000 (r2.take 57) (X2 w os):=by
 unfold Hs.ae6
 kernel_rfl
def r4:List Stmt:=r3.drop 47
noncomputable def X4 (w:World)(os:OsState):SharedT×Pos:=Hs.ak0 dpn Pgm w (r3.take 47) (X3 w os)
theorem p3 (w:World)(os:OsState):Hs.ae6 dpn Pgm w 5000 (r3.take 47) (X3 w os):=by
 unfold Hs.ae6
 kernel_rfl
def r5:List Stmt:=r4.drop 1
noncomputable def X5 (w:World)(os:OsState):SharedT×Pos:=Hs.ak0 dpn Pgm w (r4.take 1) (X4 w os)
theorem b5W (w:World)(os:OsState):Hs.ae6 dpn Pgm (w.withFollow "special-get-raises" false) 3000 (r4.take 1) (X4 (w.withFollow "special-get-raises" false) os):=by
 unfold Hs.ae6
 kernel_rfl
theorem b5Y (w:World)(os:OsState):Hs.ae6 dpn Pgm (w.withFollow "special-get-raises" true) 3000 (r4.take 1) (X4 (w.withFollow "special-get-raises" true) os):=by
 unfold Hs.ae6
 kernel_rfl
theorem p4 (w:World)(os:OsState):Hs.ae6 dpn Pgm w 3000 (r4.take 1) (X4 w os):=byRow2 "special-get-raises" (P:=fun w=>Hs.ae6 dpn Pgm w 3000 (r4.take 1) (X4 w os)) (fun w=>b5W w os) (fun w=>b5Y w os) w
def r6:List Stmt:=r5.drop 50
noncomputable def X6 (w:World)(os:OsState):SharedT×Pos:=Hs.ak0 dpn Pgm w (r5.take 50) (X5 w os)
theorem p5 (w:World)(os:OsState):Hs.ae6 dpn Pgm w 5000 (r5.take 50) (X5 w os):=by
 unfold Hs.ae6
 kernel_rfl
def r7:List Stmt:=r6.drop 51
noncomputable def X7 (w:World)(os:OsState):SharedT×Pos:=Hs.ak0 dpn Pgm w (r6.take 51) (X6 w os)
theorem p6 (w:World)(os:OsState):Hs.ae6 dpn Pgm w 5000 (r6.take 51) (X6 w os):=by
 unfold Hs.ae6
 kernel_rfl
def r8:List Stmt:=r7.drop 25
noncomputable def X8 (w:World)(os:OsState):SharedT×Pos:=Hs.ak0 dpn Pgm w (r7.take 25) (X7 w os)
theorem p7 (w:World)(os:OsState):Hs.ae6 dpn Pgm w 5000 (r7.take 25) (X7 w os):=by
 unfold Hs.ae6
 kernel_rfl
theorem b51:r8=[]:=by kernel_rfl
noncomputable def Z (w:World)(os:OsState):Shared:=(X8 w os).1.abs
theorem b52 {w:World}{os:OsState}:topRun treeTable Rw.prog w 11 Hs.ag1 4 (X8 w os).1.abs (restOf r8 (Hs.envOf Pgm) (Hs.cOf Pgm) (X8 w os).2 Hs.Bk)=some (Z w os):=by
 rw[b51]
 exact Hs.b5E
theorem b54 (w:World)(os:OsState): ∃m,m≤60+(1+(5000+(5000+(5000+(5000+(3000+(5000+(5000+(5000+4)))))))))∧topRun treeTable Rw.prog w 11 Hs.ag1 m ⟨boot_heap w.params,#[],boot_drawn,boot_toks,os⟩ (topStub Rw.prog)=some (Z w os):=
 Hs.b5F (b5O w os) (b5S w os) (Hs.ax7 (p0 w os) (Hs.ax7 (p1 w os) (Hs.ax7 (p2 w os) (Hs.ax7 (p3 w os) (Hs.ax7 (p4 w os) (Hs.ax7 (p5 w os) (Hs.ax7 (p6 w os) (Hs.ax7 (p7 w os) b52))))))))
def asl:List Nat:=([3,6,4,24,37,49,61,73,85,97,109,121,133,145,157,169,181,193,196,197,198,606,789,0,23,36,48,60,72,84,96,108,120,132,144,156,168,180,192,22]:List Nat)++([25,35,47,59,71,83,95,107,119,131,143,155,167,179,191,1233,1232,1240,1239,203,202,208,207,215,214,220,219,225,224,232,231,239,238,258,257,270,269,265,264,277]:List Nat)++([276,282,281,287,286,292,291,299,298,1112,1111,1124,1123,524,523,529,528,541,540,562,561,1131,1130,387,386,1247,1246,304,303,311,310,323,322,330,329,318,317,418,417,394]:List Nat)++([393,399,398,425,424,484,483,1197,1196,1164,1163,890,889,928,927,954,953,536,535,548,547,997,996,632,631,651,650,337,336,694,693,711,710,1202,1201,1212,1211,904,903,897]:List Nat)++([896,911,910,947,946,677,676,1254,1253,356,355,404,403,411,410,439,438,470,469,477,476,517,516,555,554,579,578,598,597,605,604,625,624,432,431,451,450,344,343,496]:List Nat)++([495,940,939,458,457,1261,1260,1219,1218,1019,1018,1009,1008,1077,1076,1065,1064,1084,1083,1004,1003,1091,1090,1105,1104,706,705,1070,1069,1098,1097,682,681,1268,1267,1226,1225,1275,1274]:List Nat)
abbrev hk:PySem.W.Hook:=Hs.a5D asl fn [] ((tfs.map fun p=>(p.1,none))) see
noncomputable abbrev Ks (w:World)(os:OsState):Fr':=He.frT (HandSHeadRun.getT (X8 w os).1) asl
theorem b55 (w:World)(os:OsState):HandSHeadRun.looksF Rw.prog (boot_heap w.params) (Z w os)=true:=by kernel_rfl
theorem b56 (w:World)(os:OsState):HandSHeadRun.seenQ (PySem.W.view Rw.prog [245]) loose (importedModules Rw.prog.main.body) (fun s=>xlAt (PySem.W.view Rw.prog [245]) [] s&&recOk Rw.toRowW.records s) (Z w os)=openGood (PySem.W.view Rw.prog [245]) loose:=by kernel_rfl
theorem b6a (w:World)(os:OsState):(HandSHeadRun.looksF Rw.prog (boot_heap w.params) (Z w os),HandSHeadRun.seenQ (PySem.W.view Rw.prog [245]) loose (importedModules Rw.prog.main.body) (fun s=>xlAt (PySem.W.view Rw.prog [245]) [] s&&recOk Rw.toRowW.records s) (Z w os))=(true,openGood (PySem.W.view Rw.prog [245]) loose):=Prod.ext (b55 w os) (b56 w os)
theorem b6c (w:World)(os:OsState):(([]:List He.Tab).map fun t=>He.dicW (Ks w os) (t.1 (Ks w os)))=([]:List He.Tab).map fun t=>some (He.keysIn w.params t.2):=by kernel_rfl
theorem b6d (w:World)(os:OsState):see (Ks w os)=true:=by kernel_rfl
theorem b6f (w:World)(os:OsState):He.tabsB (HandSHeadRun.getT (X8 w os).1) ((tfs.map fun p=>(p.1,none))) (Ks w os)=true:=by kernel_rfl
def a1q:List He.DefD:=(fn.drop 0).take 30
theorem b6l (w:World)(os:OsState):(a1q.all fun d=>d.ok (Ks w os))=true∧(a1q.map fun d=>He.fnW (Ks w os) d.at_)=a1q.map He.DefD.val:=⟨by kernel_rfl,by kernel_rfl⟩
def a1r:List He.DefD:=(fn.drop 30).take 30
theorem b6m (w:World)(os:OsState):(a1r.all fun d=>d.ok (Ks w os))=true∧(a1r.map fun d=>He.fnW (Ks w os) d.at_)=a1r.map He.DefD.val:=⟨by kernel_rfl,by kernel_rfl⟩
def a1w:List He.DefD:=(fn.drop 60).take 30
theorem b6o (w:World)(os:OsState):(a1w.all fun d=>d.ok (Ks w os))=true∧(a1w.map fun d=>He.fnW (Ks w os) d.at_)=a1w.map He.DefD.val:=⟨by kernel_rfl,by kernel_rfl⟩
def a1y:List He.DefD:=(fn.drop 90).take 30
theorem b6q (w:World)(os:OsState):(a1y.all fun d=>d.ok (Ks w os))=true∧(a1y.map fun d=>He.fnW (Ks w os) d.at_)=a1y.map He.DefD.val:=⟨by kernel_rfl,by kernel_rfl⟩
def a1z:List (List He.DefD):=[a1q,a1r,a1w,a1y]
theorem b6s:fn=a1z.flatten:=by kernel_rfl
theorem b6t (w:World)(os:OsState): ∀l∈a1z,(l.all fun d=>d.ok (Ks w os))=true∧(l.map fun d=>He.fnW (Ks w os) d.at_)=l.map He.DefD.val:=by
 intro l hl
 simp only[a1z,List.mem_cons,List.not_mem_nil,or_false]at hl
 rcases hl with rfl|rfl|rfl|rfl
 ·exact b6l w os
 ·exact b6m w os
 ·exact b6o w os
 ·exact b6q w os
theorem b6v (w:World)(os:OsState):(HandSHeadRun.looksF Rw.prog (boot_heap w.params) (Z w os),HandSHeadRun.seenQ (PySem.W.view Rw.prog [245]) loose (importedModules Rw.prog.main.body) (fun s=>xlAt (PySem.W.view Rw.prog [245]) [] s&&recOk Rw.toRowW.records s) (Z w os),hk.obs (Z w os))=(true,openGood (PySem.W.view Rw.prog [245]) loose,hk.val w):=by
 have a:=b6a w os
 have b:hk.obs (Z w os)=hk.val w:=Hs.b5M a1z b6s (b6d w os) (b6f w os) (b6t w os) (b6c w os)
 have a1:=congrArg Prod.fst a
 have a2:=congrArg Prod.snd a
 exact Prod.ext a1 (Prod.ext a2 b)
theorem b6y (hc:WalkO (view (OpenLaw.row PySem.Challenge.rw_sameentries_k40_errors).prog [245]) loose (XL (view (OpenLaw.row PySem.Challenge.rw_sameentries_k40_errors).prog [245]) []) hk.says (OpenLaw.row PySem.Challenge.rw_sameentries_k40_errors).toRowW (HandSHeadRun.topDef (OpenLaw.row PySem.Challenge.rw_sameentries_k40_errors).prog 245) [] (fun f vs=>PySem.call f vs)):PySem.Challenge.rw_sameentries_k40_errors.Holds:=by
 w_on;o_law
 refine Hs.b5K (r:=OpenLaw.row PySem.Challenge.rw_sameentries_k40_errors) (q:=view (OpenLaw.row PySem.Challenge.rw_sameentries_k40_errors).prog [245]) (H:=hk) (M:=60+(1+(5000+(5000+(5000+(5000+(3000+(5000+(5000+(5000+4)))))))))) (Z:=Z) (loose:=loose) (d:=HandSHeadRun.topDef (OpenLaw.row PySem.Challenge.rw_sameentries_k40_errors).prog 245) (kwd:=[])
  (by kernel_rfl) (fun s=>by kernel_rfl) b54 b6v (by kernel_rfl) (by kernel_rfl) (by kernel_rfl) (by rfl) (by first|assumption|decide+kernel) (by decide+kernel) ⟨rfl,rfl,rfl,rfl,rfl,by decide+kernel⟩ ?hw hc
 case hw=>w_witness2
end
theorem b6A: ∀p∈exs,exs.find? (fun q=>q.2==p.2)=some p∧(p.1==("__debug__":Str))=false:=by decide+kernel
end Lw
namespace Fz
open PySem PySem.Spec PyProof.Rows L2
abbrev ak2 (w:World):Obj:= { cls:= .type "set",dict:=none,data:= .set #[] 0 (.fresh 0 0 (!w.params.followText "set-order")) }
structure STh (P:Program)(w:World)(κ:Type) where
 is:Heap→κ→Value→Prop
 hash:κ→Int
 cap:Nat
 Rep:Heap→Addr→List (Value×κ)→Prop
 keep: ∀ {h h':Heap} {k:κ} {v:Value},is h k v→(∀c o,h.get? c=some o→h'.get? c=some o)→is h' k v
 pyHash: ∀ {A:Around} {E:Value→Shared→Prop} {s:Shared} {k:κ} {v:Value} {Q:Int→Shared→Prop},A.units+20<cLine→is s.heap k v→
  (∀n,Q (hash k) { s with toks:=s.toks+n })→wpAny (model P w) A (PySem.pyHash v) Q E s
 raw: ∀ {h:Heap} {a:Addr} {L:List (Value×κ)},Rep h a L→ ∃es ep t,(∃o,h.get? a=some o∧o.ExactSet∧o.data= .set es ep t)∧t.fits es.size=true∧es.size<scanBound∧Ris t.place.toList∧
  (w.params.followText "set-order"=true∨t.led=true)∧es.toList.map (·.2)=L.map (·.1)
 nd: ∀ {h:Heap} {a:Addr} {L:List (Value×κ)},Rep h a L→(L.map (·.2)).Nodup
 keepR: ∀ {h h':Heap} {a:Addr} {L:List (Value×κ)},Rep h a L→(∀o,h.get? a=some o→h'.get? a=some o)→(∀p∈L,is h' p.2 p.1)→Rep h' a L
 fresh: ∀ {h:Heap} {a:Addr},h.get? a=some (ak2 w)→Rep h a []
 add: ∀ {A:Around} {E:Value→Shared→Prop} {s:Shared} {a:Addr} {L:List (Value×κ)} {x:Value} {k:κ} {Q:Bool→Shared→Prop},A.units+20<cLine→Rep s.heap a L→is s.heap k x→L.length+1≤cap→
  (∀b h' L',Heap.SameBut a s.heap h'→Rep h' a L'→(k∈L.map (·.2)→L'=L)→(k∉L.map (·.2)→L'.Perm ((x,k)::L))→Q b { s with heap:=h' })→
  wpAny (model P w) A (setAddHashed a x (hash k)) Q E s
section
variable {P:Program} {w:World} {κ:Type}
structure Have (ks:List (Value×κ))(i:Nat)(L:List (Value×κ)):Prop where
 sub: ∀p∈L,p∈ks.take i
 all: ∀p∈ks.take i,p.2∈L.map (·.2)
 len:L.length≤i
theorem Have.zero (ks:List (Value×κ)):Have ks 0 []:=⟨fun p h=>(by cases h),fun p h=>(by simp at h),Nat.le_refl _⟩
theorem Have.same {ks L:List (Value×κ)}{i:Nat}{x:Value×κ}(g:Have ks i L)(h:ks[i]? =some x)(hm:x.2∈L.map (·.2)):Have ks (i+1) L:=by
 refine⟨fun p hp=> ?_,fun p hp=> ?_,Nat.le_succ_of_le g.len⟩
 ·rw[L2.take_next h]
  exact List.mem_append_left _ (g.sub p hp)
 ·rw[L2.take_next h]at hp
  rcases List.mem_append.mp hp with z|z
  ·exact g.all p z
  ·rw[List.mem_singleton.mp z];exact hm
theorem Have.more {ks L L':List (Value×κ)}{i:Nat}{x:Value×κ}(g:Have ks i L)(h:ks[i]? =some x)(pm:L'.Perm (x::L)):Have ks (i+1) L':=by
 refine⟨fun p hp=> ?_,fun p hp=> ?_,?_⟩
 ·rw[L2.take_next h]
  rcases List.mem_cons.mp (pm.mem_iff.mp hp)with e|z
  ·rw[e];exact List.mem_append_right _ (List.mem_singleton.mpr rfl)
  ·exact List.mem_append_left _ (g.sub p z)
 ·rw[(pm.map (·.2)).mem_iff,List.map_cons]
  rw[L2.take_next h]at hp
  rcases List.mem_append.mp hp with z|z
  ·exact List.mem_cons_of_mem _ (g.all p z)
  ·rw[List.mem_singleton.mp z];exact List.mem_cons_self
 ·rw[pm.length_eq,List.length_cons]
  exact Nat.succ_le_succ g.len
variable {A:Around} {E:Value→Shared→Prop} {s:Shared}
theorem upd_loop (T:STh P w κ){I:Addr}{fp wr:List Addr}{G:Array GenState→Array GenState→Prop}{n:Nat}{Pv:Nat→Value→Prop}{St:Nat→Shared→Prop}{R:Result→Shared→Prop}
  (W:WalksS P w A.in1 I fp wr G n Pv St) (S:Addr) (hSf:S∉fp) (ks:List (Value×κ)) (hn:n=ks.length) (hcap: ∀i L,i<ks.length→Have ks i L→(L.map (·.2)).Nodup→L.length+1≤T.cap) (hval: ∀i v,Pv i v→ ∃p,ks[i]? =some p∧v=p.1)
  (h0:Heap) (hk: ∀p∈ks,T.is h0 p.2 p.1) (hS0:h0.get? S=none) (hw0: ∀b∈wr,h0.get? b=none) (hu:A.in1.units+20<cLine):
  ∀(k i:Nat) (s:Shared),n-i=k→i≤n→St i s→(∀b o,h0.get? b=some o→s.heap.get? b=some o)→(∃L,T.Rep s.heap S L∧Have ks i L)→
   (∀s' L,Moved (S::wr) G s s'→T.Rep s'.heap S L→Have ks n L→(∀b o,h0.get? b=some o→s'.heap.get? b=some o)→R (.ok (.ret .none)) s')→
   codeAny (model P w) A (.builtin "set.update.loop" ⟨[.ref S,.ref I],[]⟩) R s:=by
 have nSw:S∉wr:=fun h=>hSf (W.sub _ h)
 have sub': ∀b∈wr,b∈S::wr:=fun b hb=>List.mem_cons_of_mem _ hb
 have kM: ∀ {s s':Shared},Moved wr G s s'→(∀b o,h0.get? b=some o→s.heap.get? b=some o)→ ∀b o,h0.get? b=some o→s'.heap.get? b=some o:=fun hm hkp b o e=>
  hm.heap b o (fun hb=>by rw[hw0 b hb]at e;cases e) (hkp b o e)
 intro k
 induction k with
 |zero=>
  intro i s hk' hi hst hkp ⟨L,hS,g⟩ hR
  have hin:i=n:=by omega
  subst hin
  refine codeAny_builtin F.entry_set_update_loop ?_
  rw[Around.under_plainId F.plain_set_update_loop _]
  show wpAny _ A.in1 (pyNext (.ref I)>>=_) _ _ s
  refine wpAny_bind (W.done s _ _ hst fun s' hm=> ?_)
  show wpAny _ A.in1 (ret Value.none) _ _ s'
  have hkp':=kM hm hkp
  exact wpAny_pure (hR s' L (hm.mono sub') (T.keepR hS (fun o e=>hm.heap S o nSw e) fun p hp=>T.keep (hk p (List.mem_of_mem_take (g.sub p hp))) hkp') g hkp')
 |succ k ih=>
  intro i s hk' hi hst hkp ⟨L,hS,g⟩ hR
  have hlt:i<n:=by omega
  refine codeAny_builtin F.entry_set_update_loop ?_
  rw[Around.under_plainId F.plain_set_update_loop _]
  show wpAny _ A.in1 (pyNext (.ref I)>>=_) _ _ s
  refine wpAny_bind (W.item i s _ _ hlt hst fun v s' hP hst' hm=> ?_)
  obtain⟨p,hp,rfl⟩:=hval i v hP
  have hkp':=kM hm hkp
  have hS':T.Rep s'.heap S L:=T.keepR hS (fun o e=>hm.heap S o nSw e) fun q hq=>T.keep (hk q (List.mem_of_mem_take (g.sub q hq))) hkp'
  have hx:T.is s'.heap p.2 p.1:=T.keep (hk p (List.mem_of_getElem? hp)) hkp'
  show wpAny _ A.in1 (holding [p.1] (setAdd S p.1)>>=_) _ _ s'
  refine wpAny_bind (wpAny_holding ?_)
  unfold setAdd
  refine wpAny_holding ?_
  refine wpAny_bind (T.pyHash hu hx fun nt=> ?_)
  refine T.add (s:= { s' with toks:=s'.toks+nt }) hu hS' hx (hcap i L (by omega) g (T.nd hS)) fun b h' L' hsb hS2 c1 c2=> ?_
  have g':Have ks (i+1) L':=by
   rcases Classical.em (p.2∈L.map (·.2))with c|c
   ·rw[c1 c];exact g.same hp c
   ·exact g.more hp (c2 c)
  have hkp2: ∀b o,h0.get? b=some o→h'.get? b=some o:=fun b o e=>(hsb.2 b (fun z=>by rw[z,hS0]at e;cases e)).trans (hkp' b o e)
  refine wpAny_pure ⟨plainId_quiet F.plain_set_update_loop _,ih (i+1) _ (by omega) hlt (W.frame _ s' _ _ hst' (Nat.le_add_right _ _) fun b hb o e=> ?_) hkp2 ⟨L',hS2,g'⟩ fun s'' L2 hm'' hS'' g'' hkp''=> ?_⟩
  ·rw[hsb.2 b (fun h:b=S=>hSf (by rw[←h];exact hb))];exact e
  ·refine hR s'' L2 (Moved.trans W.gtrans ((hm.mono sub').then_heap (Nat.le_add_right _ _) fun b o hb e=> ?_) hm'') hS'' g'' hkp''
   rw[hsb.2 b (fun h:b=S=>hb (by rw[h];exact List.mem_cons_self))];exact e
theorem a1F {h:Heap}{b:Addr}(hb:h.objs.size≤b):h.get? b=none:=by
 cases q:h.get? b with
 |none=>rfl
 |some o=>exact absurd (Nat.lt_of_lt_of_le (Heap.lt_size q) hb) (Nat.lt_irrefl _)
theorem bw3 {items:Array Value}{ks:List (Value×κ)}(hit:items.toList=ks.map (·.1))(i:Nat)(v:Value)(hv:items[i]? =some v): ∃p,ks[i]? =some p∧v=p.1:=by
 have q:items.toList[i]? =some v:=by rw[Array.getElem?_toList];exact hv
 rw[hit,List.getElem?_map]at q
 cases hq:ks[i]? with
 |none=>rw[hq]at q;cases q
 |some p=>rw[hq]at q;exact⟨p,rfl,(Option.some.inj q).symm⟩
set_option maxHeartbeats 3200000 in
theorem b6B (T:STh P w κ){l:Addr}{items:Array Value}(ks:List (Value×κ)){Q:Value→Shared→Prop}(hh:A.handled=none)(hl:s.heap.IsList l items∨s.heap.IsTuple l items)(hit:items.toList=ks.map (·.1))
  (hk: ∀p∈ks,T.is s.heap p.2 p.1) (hcap: ∀i L,i<ks.length→Have ks i L→(L.map (·.2)).Nodup→L.length+1≤T.cap) (hu:A.units+30<cLine)
  (h: ∀(h':Heap) (tk:Nat) L,T.Rep h' s.heap.objs.size L→Have ks ks.length L→(∀b o,s.heap.get? b=some o→h'.get? b=some o)→Q (.ref s.heap.objs.size) { s with heap:=h',toks:=tk }):
  wpAny (model P w) A (call (.type "set") [.ref l]) Q E s:=by
 have isz:items.size=ks.length:=by
  have q:=congrArg List.length hit
  rw[Array.length_toList,List.length_map]at q
  exact q
 obtain⟨c,tl,hmro⟩:=F.called_set.mro
 have hmade:=F.called_set.made
 have hsub:=F.called_set.sub
 refine wpAny_call (codeAny_of_tree ?_)
 show wpAny _ _ (callAny (.type "set") _) _ _ _
 refine wpAny_pure ⟨Code.quiet_builtin _ (by decide+kernel),codeAny_builtin F.entry_type_call ?_⟩
 rw[Around.under_plain (weight_type_call_type "set" [.ref l] []) rfl]
 have h1:=F.called_set.notType
 have h2:=F.called_set.canCreate
 have hct:=F.typeCall_set_1 (.ref l)
 repeat (any_goals (first|assumption|wp_step))
 refine codeAny_mono (code_set_led1 (.ref l) (E:=E) (Q₁:=fun obj s₁=>obj= .ref s.heap.objs.size∧s₁= { s with heap:=s.heap.push (ak2 w) }) ⟨rfl,rfl⟩) fun r s₁ hr=> ?_
 cases r with
 |error e=>exact hr
 |ok fl  =>
  cases fl with
  |ret   obj=>
   obtain⟨rfl,rfl⟩:=hr
   have hS:(s.heap.push (ak2 w)).get? s.heap.objs.size=some (ak2 w):=Heap.get?_push_size _ rfl
   have hT:Shared.TypeIs { s with heap:=s.heap.push (ak2 w) } (.ref s.heap.objs.size) "set":=⟨_,hS,rfl⟩
   have hli:=F.called_set.init.lookup
   have hbi:=F.called_set.init.bind (.ref s.heap.objs.size)
   repeat (any_goals (first|assumption|wp_step))
   refine codeAny_mono (codeAny_call_builtin (R:=wants (fun r s₂=>r= .none∧ ∃h' tk L,s₂= { s with heap:=h',toks:=tk }∧T.Rep h' s.heap.objs.size L∧Have ks ks.length L∧
         (∀b o,s.heap.get? b=some o→h'.get? b=some o)) E) F.called_set.init.plain F.entry_set_init (check_set_init_1 hT ?_)) fun r₂ s₂ hr₂=> ?_
   ·    have fin: ∀(I:Addr) (s':Shared) (L:List (Value×κ)),Moved (s.heap.objs.size::[I]) (fun g g'=>g'=g) { s with heap:=s.heap.push (ak2 w) } s'→True:=fun _ _ _ _=>trivial
        rcases hl with hl|hl
        ·obtain⟨ol,hol,hcl,nl,hdl⟩:=hl
         obtain⟨ocls,odict,odata,oslots⟩:=ol
         simp only at hcl hdl
         subst hcl;subst hdl
         have hol':(s.heap.push (ak2 w)).get? l=some { cls:= .type "list",dict:=odict,data:= .seq items nl,slots:=oslots }:=Heap.get?_push_of_some _ hol
         have hsls:=F.sub_list_set
         have hslf:=F.sub_list_frozenset
         have hne:(Value.type "list"==Value.type "dict")=false:=by decide
         have hl1:(s.heap.push (ak2 w)).IsList l items:=⟨_,hol',rfl,nl,rfl⟩
         unfold Builtin.«set.__init__» noKeywords Builtin.Frozenset.updateFrom
         generalize hPI:pyIter=PI
         wp_walk
         subst hPI
         refine wpAny_pyIter_list hl1 ?_
         refine wpAny_bind (wpAny_runValue ?_)
         have hlS:l<s.heap.objs.size:=Heap.lt_size hol
         have hh3:A.in1.in1.in1.handled=none:=by simp[hh]
         have hneI:l≠(s.heap.push (ak2 w)).objs.size:=by
          rw[Heap.size_push];exact Nat.ne_of_lt (Nat.lt_succ_of_lt hlS)
         have hSf:s.heap.objs.size∉[(s.heap.push (ak2 w)).objs.size,l]:=by
          rw[Heap.size_push];simp only[List.mem_cons,List.mem_singleton,List.not_mem_nil,or_false,not_or]
          exact⟨Nat.ne_of_lt (Nat.lt_succ_self _),Nat.ne_of_gt hlS⟩
         refine upd_loop T ((Walks.list hh3 _ l hneI items).toS) s.heap.objs.size hSf ks isz hcap (bw3 hit) s.heap hk (a1F (Nat.le_refl _)) (fun b hb=>a1F (by
            rw[List.mem_singleton.mp hb,Heap.size_push]
            exact Nat.le_succ _)) (by simpa using(show A.units+3+20<cLine by omega)) (items.size-0) 0 _ (by omega) (Nat.zero_le _)
          ⟨⟨_,Heap.get?_push_size _ rfl,rfl,rfl⟩,(hl1.push _)⟩ (fun b o e=>Heap.get?_push_of_some _ (Heap.get?_push_of_some _ e)) ⟨[],T.fresh (Heap.get?_push_of_some _ hS),Have.zero ks⟩ ?_
         intro s' L hm hS' g' hkp
         obtain⟨h',g2,d',tk',os'⟩:=s'
         have eg:g2=s.gens:=hm.gens
         have ed:d'=s.drawn:=hm.drawn
         have eo:os'=s.os:=hm.os
         subst eg;subst ed;subst eo
         show wpAny _ _ _ _ _ _
         refine wpAny_pure ?_
         show wpAny _ _ (ret Value.none) _ _ _
         rw[isz]at g'
         exact wpAny_pure ⟨rfl,h',tk',L,rfl,hS',g',hkp⟩
        ·obtain⟨ol,hol,hcl,nl,hdl⟩:=hl
         obtain⟨ocls,odict,odata,oslots⟩:=ol
         simp only at hcl hdl
         subst hcl;subst hdl
         have hol':(s.heap.push (ak2 w)).get? l=some { cls:= .type "tuple",dict:=odict,data:= .seq items nl,slots:=oslots }:=Heap.get?_push_of_some _ hol
         have hsls:=PySem.F.sub_tuple_set
         have hslf:=PySem.F.sub_tuple_frozenset
         have hne:(Value.type "tuple"==Value.type "dict")=false:=by decide
         have hl1:(s.heap.push (ak2 w)).IsTuple l items:=⟨_,hol',rfl,nl,rfl⟩
         unfold Builtin.«set.__init__» noKeywords Builtin.Frozenset.updateFrom
         generalize hPI:pyIter=PI
         wp_walk
         subst hPI
         refine wpAny_pyIter_tuple hl1 ?_
         refine wpAny_bind (wpAny_runValue ?_)
         have hlS:l<s.heap.objs.size:=Heap.lt_size hol
         have hh3:A.in1.in1.in1.handled=none:=by simp[hh]
         have hneI:l≠(s.heap.push (ak2 w)).objs.size:=by
          rw[Heap.size_push];exact Nat.ne_of_lt (Nat.lt_succ_of_lt hlS)
         have hSf:s.heap.objs.size∉[(s.heap.push (ak2 w)).objs.size,l]:=by
          rw[Heap.size_push];simp only[List.mem_cons,List.mem_singleton,List.not_mem_nil,or_false,not_or]
          exact⟨Nat.ne_of_lt (Nat.lt_succ_self _),Nat.ne_of_gt hlS⟩
         refine upd_loop T ((Walks.tuple hh3 _ l hneI items).toS) s.heap.objs.size hSf ks isz hcap (bw3 hit) s.heap hk (a1F (Nat.le_refl _)) (fun b hb=>a1F (by
            rw[List.mem_singleton.mp hb,Heap.size_push]
            exact Nat.le_succ _)) (by simpa using(show A.units+3+20<cLine by omega)) (items.size-0) 0 _ (by omega) (Nat.zero_le _)
          ⟨⟨_,Heap.get?_push_size _ rfl,rfl,rfl⟩,(hl1.push _)⟩ (fun b o e=>Heap.get?_push_of_some _ (Heap.get?_push_of_some _ e)) ⟨[],T.fresh (Heap.get?_push_of_some _ hS),Have.zero ks⟩ ?_
         intro s' L hm hS' g' hkp
         obtain⟨h',g2,d',tk',os'⟩:=s'
         have eg:g2=s.gens:=hm.gens
         have ed:d'=s.drawn:=hm.drawn
         have eo:os'=s.os:=hm.os
         subst eg;subst ed;subst eo
         show wpAny _ _ _ _ _ _
         refine wpAny_pure ?_
         show wpAny _ _ (ret Value.none) _ _ _
         rw[isz]at g'
         exact wpAny_pure ⟨rfl,h',tk',L,rfl,hS',g',hkp⟩
   ·    cases r₂ with
        |error e=>exact hr₂
        |ok fl₂=>
         cases fl₂ with
         |ret r=>
          obtain⟨rfl,h',tk,L,rfl,hS',g',hk'⟩:=hr₂
          repeat (any_goals (first|assumption|wp_step))
          exact h _ _ _ hS' g' hk'
         |_=>exact hr₂.elim
  |_=>exact hr.elim
end
end Fz
namespace Fz
open PySem PySem.Spec PyProof.Rows L2
section
variable {P:Program} {w:World}
def KIs (k:L2.Key)(v:Value):Prop:=keyIs k v=true
theorem KIs.inj {a b:L2.Key}{v:Value}(h:KIs a v)(h':KIs b v):a=b:=by
 rcases keyIs_shape h with⟨i,t,rfl,rfl⟩|⟨x,t,rfl,rfl⟩
 ·rcases keyIs_shape h' with⟨j,u,rfl,e⟩|⟨y,u,rfl,e⟩
  ·injection e with e1 _;rw[e1]
  ·exact nomatch e
 ·rcases keyIs_shape h' with⟨j,u,rfl,e⟩|⟨y,u,rfl,e⟩
  ·exact nomatch e
  ·injection e with e1 _;rw[e1]
theorem bw5 {k:L2.Key}{v:Value}(h:KIs k v):v.scannable=true:=by
 rcases keyIs_shape h with⟨i,t,rfl,rfl⟩|⟨x,t,rfl,rfl⟩ <;>rfl
def aR4 (w:World)(h:Heap)(a:Addr)(L:List (Value×L2.Key)):Prop:=
 ∃  o es ep t,h.get? a=some o∧o.ExactSet∧o.data= .set es ep t∧es.toList=L.map (fun p=>(keyH w p.2,p.1))∧(∀p∈L,KIs p.2 p.1)∧(L.map (·.2)).Nodup∧
    es.size<scanBound∧t.fits es.size=true∧Ris t.place.toList∧(w.params.followText "set-order"=true∨t.led=true)
theorem b6E {es:Array (Int×Value)}{L:List (Value×L2.Key)}(e:es.toList=L.map (fun p=>(keyH w p.2,p.1)))(hk: ∀p∈L,KIs p.2 p.1):ElemsOf (mixKind P w) es.toList:=fun q hq=>by
 rw[e]at hq
 obtain⟨p,hp,rfl⟩:=List.mem_map.mp hq
 exact⟨⟨p.2,hk p hp,rfl⟩,bw5 (hk p hp)⟩
theorem bw6 {L:List (Value×L2.Key)}{rows:List (Int×Value)}(h:rows.Perm (L.map (fun p=>(keyH w p.2,p.1)))): ∃L':List (Value×L2.Key),rows=L'.map (fun p=>(keyH w p.2,p.1))∧L'.Perm L:=by
 generalize hm:L.map (fun p=>(keyH w p.2,p.1))=l2 at h
 induction h generalizing L with
 |nil=>exact⟨[],rfl,by cases L with|nil=>exact .nil|cons _ _=>cases hm⟩
 |cons x _ ih=>
  cases L with
  |nil=>cases hm
  |cons p L=>
   rw[List.map_cons]at hm
   injection hm with h1 h2
   obtain⟨L',e,pm⟩:=ih h2
   exact⟨p::L',by rw[List.map_cons,e,h1],pm.cons p⟩
 |swap x y l=>
  match L,hm with
  |p::q::L,hm=>
   rw[List.map_cons,List.map_cons]at hm
   injection hm with h1 h2
   injection h2 with h2 h3
   exact⟨q::p::L,by rw[List.map_cons,List.map_cons,h1,h2,h3],.swap p q L⟩
  | [_],hm=>simp at hm
  | [],hm=>simp at hm
 |trans _ _ ih1 ih2=>
  obtain⟨L2,e2,p2⟩:=ih2 hm
  obtain⟨L1,e1,p1⟩:=ih1 e2.symm
  exact⟨L1,e1,p1.trans p2⟩
section
variable {A:Around} {E:Value→Shared→Prop} {s:Shared} {a:Addr}
theorem bw8 {g:Bool→Sem Unit}(hg: ∀(b:Bool) (s₁:Shared) (Q':Unit→Shared→Prop),Q' () s₁→wpAny (model P w) A (g b) Q' E s₁)
  {o:Obj} {es:Array (Int×Value)} {ep:Nat} {t:SetTable} (ho:s.heap.get? a=some o) (hex:o.ExactSet) (hd:o.data= .set es ep t)
  {es1:Array (Int×Value)} {t2:SetTable} {L1:List (Value×L2.Key)} (e1:es1.toList=L1.map (fun p=>(keyH w p.2,p.1))) (k1: ∀p∈L1,KIs p.2 p.1) (nd1:(L1.map (·.2)).Nodup)
  (hb1:es1.size<scanBound) (hf2:t2.fits es1.size=true) (hr:Ris t2.place.toList) (hl:w.params.followText "set-order"=true∨t2.led=true) {wasDummy:Bool} {R:Option Bool→Shared→Prop}
  (hR: ∀h' L',Heap.SameBut a s.heap h'→aR4 w h' a L'→L'.Perm L1→R (some true) { s with heap:=h' }):
  wpAny  (model P w) A (do
        storeSet a es1 t2
        if(!wasDummy&&t2.tooFull)=true then do
          g (relayAll t2 es1 (SetTable.grown es1.size)).2.2
          storeSet a (relayAll t2 es1 (SetTable.grown es1.size)).1 (relayAll t2 es1 (SetTable.grown es1.size)).2.1
          pure (some true)
         else pure (some true)) R E s:=by
 refine wpAny_bind (wpAny_storeSet_of ho hd ?_ (fits_of_scanBound hb1))
 have ho1:=store_at (es':=es1) (t':=t2) ho hd
 have sb1:=Heap.SameBut.update s.heap a (Obj.putSet es1 t2)
 split
 ·have pm:=relayAll_perm t2 es1 (SetTable.grown es1.size)
  have hf3:=relayAll_fits t2 es1 (SetTable.grown es1.size)
  have hr3:=relayAll_ris t2 es1 (SetTable.grown es1.size)
  have hl3:=relayAll_led t2 es1 (SetTable.grown es1.size)
  generalize relayAll t2 es1 (SetTable.grown es1.size)=Z at pm hf3 hr3 hl3 ⊢
  obtain⟨es2,t3,gave⟩:=Z
  dsimp only at pm hf3 hr3 hl3 ⊢
  have hsz:es2.size=es1.size:=by rw[←Array.length_toList,pm.length_eq,Array.length_toList]
  have hb2:es2.size<scanBound:=by rw[hsz];exact hb1
  rw[e1]at pm
  obtain⟨L2,e2,p2⟩:=bw6 pm
  refine wpAny_bind (hg _ _ _ ?_)
  refine wpAny_bind (wpAny_storeSet_of ho1 rfl ?_ (fits_of_scanBound hb2))
  have ho2:=store_at (es':=es2) (t':=t3) ho1 rfl
  refine wpAny_pure (hR _ L2 (sb1.trans (Heap.SameBut.update _ a _)) ?_ p2)
  exact⟨_,es2,_,t3,ho2,hex,rfl,e2,fun p hp=>k1 p (p2.mem_iff.mp hp),(p2.map (·.2)).nodup_iff.mpr nd1,hb2,hf3,hr3,hl.imp id fun z=>by rw[hl3];exact z⟩
 ·exact wpAny_pure (hR _ L1 sb1 ⟨_,es1,_,t2,ho1,hex,rfl,e1,k1,nd1,hb1,hf2,hr,hl⟩ (.refl _))
theorem b6F {L:List (Value×L2.Key)}{x:Value}{k:L2.Key}{Q:Bool→Shared→Prop}(R:aR4 w s.heap a L)(hx:KIs k x)(room:L.length+1≤4000)
  (hQ: ∀b h' L',Heap.SameBut a s.heap h'→aR4 w h' a L'→(k∈L.map (·.2)→L'=L)→(k∉L.map (·.2)→L'.Perm ((x,k)::L))→Q b { s with heap:=h' }):
  wpAny (model P w) A (setAddHashed a x (keyH w k)) Q E s:=by
 have R0:=R
 obtain⟨o,es,ep,t,ho,hex,hd,er,hk,nd,hb,hf,hr,hl⟩:=R
 have hsc:x.scannable=true:=bw5 hx
 have hel:ElemsOf (mixKind P w) es.toList:=b6E er hk
 have hkey:(mixKind P w).is k x=true:=hx
 show wpAny (model P w) A (setAddHashed a x ((mixKind P w).hash k)) Q E s
 unfold setAddHashed setAddHashedIn
 refine wpAny_holding (wpAny_bind (wpAny_setState_of ho hd hf ?_))
 dsimp only
 rw[byScan_of hsc hb hel]
 simp only[↓reduceIte]
 unfold setAddByScan
 refine wpAny_bind ?_
 refine wpAny_bind (wpAny_rule ?_)
 refine wpAny_bind (wpAny_setScan_of hkey ho hd hf hel ?_)
 have mem_iff:k∈L.map (·.2)↔ ∃e∈es.toList,(mixKind P w).is k e.2=true:=by
  rw[er]
  constructor
  ·intro z
   obtain⟨p,hp,e⟩:=List.mem_map.mp z
   exact⟨_,List.mem_map.mpr ⟨p,hp,rfl⟩,by rw[←e];exact hk p hp⟩
  ·rintro⟨e,he,q⟩
   obtain⟨p,hp,rfl⟩:=List.mem_map.mp he
   exact List.mem_map.mpr ⟨p,hp,KIs.inj (hk p hp) q⟩
 cases hfi:List.findIdx? (fun e=>(mixKind P w).is k e.2) es.toList with
 |some j=>
  dsimp only
  obtain⟨hj,pj,_⟩:=List.findIdx?_eq_some_iff_getElem.mp hfi
  have hm:k∈L.map (·.2):=mem_iff.mpr ⟨es.toList[j],List.getElem_mem hj,pj⟩
  refine wpAny_pure (wpAny_pure ?_)
  exact hQ _ s.heap L (Heap.SameBut.refl a s.heap) R0 (fun _=>rfl) fun z=>absurd hm z
 |none=>
  dsimp only
  have hnk:k∉L.map (·.2):=fun z=>by
   obtain⟨e,he,q⟩:=mem_iff.mp z
   have c:=List.findIdx?_eq_none_iff.mp hfi e he
   rw[q]at c
   cases c
  have hgw: ∀(b:Bool) {s₁:Shared} {Q':Unit→Shared→Prop},Q' () s₁→wpAny (model P w) A (match b with|true=>rule "set.scan.the-table-gave-way"|false=>pure ()) Q' E s₁:=
   fun b s₁ Q' q=>by cases b<;>first|exact wpAny_pure q|exact wpAny_rule q
  have pm:=layNew_perm t es ((mixKind P w).hash k) x
  have hf1:=layNew_fits t es ((mixKind P w).hash k) x
  have hr1:=layNew_ris t es ((mixKind P w).hash k) x hr
  have hl1:=layNew_led t es ((mixKind P w).hash k) x
  generalize layNew t es ((mixKind P w).hash k) x=Z at pm hf1 hr1 hl1 ⊢
  obtain⟨es1,t1,wasDummy,gave⟩:=Z
  dsimp only at pm hf1 hr1 hl1 ⊢
  rw[Array.toList_push]at pm
  have pc:es1.toList.Perm (((mixKind P w).hash k,x)::es.toList):=pm.trans (List.perm_append_singleton _ _)
  have pc2:es1.toList.Perm (((x,k)::L).map (fun p=>(keyH w p.2,p.1))):=by rw[List.map_cons,←er];exact pc
  obtain⟨L1,e1,p1⟩:=bw6 pc2
  have k1: ∀p∈L1,KIs p.2 p.1:=fun p hp=>by
   rcases List.mem_cons.mp (p1.mem_iff.mp hp)with z|z
   ·rw[z];exact hx
   ·exact hk p z
  have nd1:(L1.map (·.2)).Nodup:=(p1.map (·.2)).nodup_iff.mpr (List.nodup_cons.mpr ⟨hnk,nd⟩)
  have hsz:es1.size=L.length+1:=by rw[←Array.length_toList,e1,List.length_map,p1.length_eq,List.length_cons]
  have hb1:es1.size<scanBound:=by rw[hsz];unfold scanBound;omega
  have hled:w.params.followText "set-order"=true∨t1.led=true:=hl.imp id fun z=>by rw[hl1];exact z
  have fin: ∀h' L',Heap.SameBut a s.heap h'→aR4 w h' a L'→L'.Perm L1→Q true { s with heap:=h' }:=fun h' L' sb r pp=>hQ true h' L' sb r (fun z=>absurd z hnk) fun _=>pp.trans p1
  refine wpAny_bind (hgw _ ?_)
  split
  ·refine wpAny_bind ?_
   rw[hashByValue_scannable 8 hsc]
   refine wpAny_pure ?_
   refine bw8 ?_ ho hex hd e1 k1 nd1 hb1 ?_ ?_ ?_ ?_
   ·intro b s₁ Q' q;cases b<;>first|exact wpAny_pure q|exact wpAny_rule q
   ·first|(split<;>first|exact hf1|exact SetTable.fits_plain_off hf1)|exact hf1
   ·first|(split<;>exact hr1)|exact hr1
   ·first|(split<;>exact hled)|exact hled
   ·intro h' L' sb r pp;dsimp only;exact wpAny_pure (fin h' L' sb r pp)
  ·refine wpAny_bind (wpAny_pure ?_)
   simp only[↓reduceIte]
   refine bw8 ?_ ho hex hd e1 k1 nd1 hb1 hf1 hr1 hled ?_
   ·intro b s₁ Q' q;cases b<;>first|exact wpAny_pure q|exact wpAny_rule q
   ·intro h' L' sb r pp;dsimp only;exact wpAny_pure (fin h' L' sb r pp)
end
def th1 (P:Program)(w:World):STh P w L2.Key where
 is:=fun _ k v=>KIs k v
 hash:=keyH w
 cap:=4000
 Rep:=aR4 w
 keep:=fun h _=>h
 pyHash:=fun {A E s k v Q} _ hk h=>by
    rcases keyIs_shape hk with⟨i,t,rfl,rfl⟩|⟨x,t,rfl,rfl⟩
    ·exact wpAny_pyHash_int (h 1)
    ·exact wpAny_pyHash_str (h 1)
 raw:=fun {h a L} ⟨o,es,ep,t,ho,hex,hd,er,hk,nd,hb,hf,hr,hl⟩=>⟨es,ep,t,⟨o,ho,hex,hd⟩,hf,hb,hr,hl,by rw[er,List.map_map];rfl⟩
 nd:=fun {h a L} ⟨o,es,ep,t,ho,hex,hd,er,hk,nd,_⟩=>nd
 keepR:=fun {h h' a L} ⟨o,es,ep,t,ho,r⟩ k _=>⟨o,es,ep,t,k o ho,r⟩
 fresh:=fun {h a} ho=>⟨_,#[],0,_,ho,⟨rfl,rfl,rfl⟩,rfl,rfl,(fun p hp=>by cases hp),List.nodup_nil,(by decide),(by rfl),List.Pairwise.nil,by
    show _∨(!w.params.followText "set-order")=true
    cases w.params.followText "set-order"
    ·exact .inr rfl
    ·exact .inl rfl⟩
 add:=fun {A E s a L x k Q} _ R hx room hQ=>b6F R hx room hQ
end
end Fz
namespace Fz
open PySem PySem.Spec PyProof.Rows L2
def Wid (m:Nat):Prop:=MaskOk m∨m=511
theorem Wid.odd {m:Nat}(h:Wid m):m%2=1:=h.elim mask_odd fun e=>by omega
theorem Wid.is {m:Nat}(h:Wid m):m=7∨m=31∨m=127∨m=511:=by
 rcases h with(e|e|e)|e<;>omega
theorem b6G:((List.range 512).all fun x=>lcgI 511 x 128==(x+384)%512)=true:=by decide+kernel
theorem hop {x:Nat}(h:x≤511):lcgI 511 x 128=(x+384)%512:=
 beq_iff_eq.mp (List.all_eq_true.mp b6G x (List.mem_range.mpr (by omega)))
theorem a1I (m i a:Nat): ∀k,lcgI m i (a+k)=lcgI m (lcgI m i a) k
 |0=>rfl
 |k+1=>by
  have:=a1I m i a k
  rw[←Nat.add_assoc]
  simp only[lcgI,this]
theorem bw9 (i:Nat): ∀k,lcgI 511 i k%128=lcgI 127 (i%128) k%128
 |0=>by simp only[lcgI];omega
 |k+1=>by
  have:=bw9 i k
  simp only[lcgI]
  omega
theorem a5G {m i:Nat}(h:i≤m)(k:Nat):lcgI m i k≤m:=by
 cases k with
 |zero=>exact h
 |succ k=>exact Nat.le_of_lt_succ (Nat.mod_lt _ (by omega))
theorem Wid.all {m:Nat}(hm:Wid m){i j:Nat}(hi:i≤m)(hj:j≤m): ∃k,k≤m∧lcgI m i k=j:=by
 rcases hm with hm|rfl
 ·exact lcgI_all hm hi hj
 ·obtain⟨b,hb,e⟩:=lcgI_all (m:=127) (.inr (.inr rfl)) (i:=i%128) (j:=j%128) (by omega) (by omega)
  have h1:=bw9 i b
  have h2:=a5G (m:=511) hi b
  have s1:lcgI 511 i (b+128)=(lcgI 511 i b+384)%512:=by rw[a1I];exact hop h2
  have s2:lcgI 511 i (b+256)=(lcgI 511 i (b+128)+384)%512:=by
   rw[show b+256=b+128+128 from rfl,a1I];exact hop (a5G hi _)
  have s3:lcgI 511 i (b+384)=(lcgI 511 i (b+256)+384)%512:=by
   rw[show b+384=b+256+128 from rfl,a1I];exact hop (a5G hi _)
  by_cases c0:lcgI 511 i b=j
  ·exact⟨b,by omega,c0⟩
  ·by_cases c1:lcgI 511 i (b+128)=j
   ·exact⟨b+128,by omega,c1⟩
   ·    by_cases c2:lcgI 511 i (b+256)=j
        ·exact⟨b+256,by omega,c2⟩
        ·exact⟨b+384,by omega,by omega⟩
theorem Wid.run {m:Nat}(hm:Wid m)(h:Int){j:Nat}(hj:j≤m): ∃n,n<SetTable.turns m∧runI m (SetTable.bits h) n=j:=by
 obtain⟨k,k1,k2⟩:=hm.all (runI_le m (SetTable.bits h) 12) hj
 refine⟨12+k,by unfold SetTable.turns;omega,?_⟩
 rw[runI_tail (bits_lt h),k2]
theorem a5J (m:Nat)(h:Int)(k:Nat):way m h k≤m:=by
 have h0:SetTable.bits h%(m+1)≤m:=Nat.le_of_lt_succ (Nat.mod_lt _ (by omega))
 have:=nth_in (m:=m) k (runAt m (SetTable.bits h%(m+1)) (SetTable.bits h)) (by
  have:=runEnd_bd h0
  simp only[runAt]
  omega)
 unfold way
 omega
structure TabW (t:SetTable)(hs:List Int):Prop where
 ris:Ris t.place.toList
 dm:t.dummies= #[]
 sz:t.place.size=hs.length
 mok:Wid t.mask
 bd: ∀x∈t.place.toList,x≤t.mask
 way: ∀q∈hs.zip t.place.toList,∃k,L2.way t.mask q.1 k=q.2∧ ∀k',k'<k→L2.way t.mask q.1 k'∈t.place.toList
theorem TabW.first {t:SetTable}{hs:List Int}(T:TabW t hs)(hl:hs.length≤t.mask)(h:Int): ∃K,K<10*SetTable.turns t.mask∧L2.way t.mask h K∉t.place.toList∧ ∀k,k<K→L2.way t.mask h k∈t.place.toList:=by
 obtain⟨j,j1,j2⟩:=st_missing t.place.toList (t.mask+1) (by rw[Array.length_toList,T.sz];omega)
 obtain⟨n,n1,n2⟩:=T.mok.run h (j:=j) (by omega)
 obtain⟨c,c1,c2⟩:=run_nth t.mask (SetTable.bits h) n
 have hc:L2.way t.mask h c∉t.place.toList:=by
  have:L2.way t.mask h c=j:=by unfold L2.way;rw[c2];exact n2
  rw[this];exact j2
 obtain⟨K,k1,k2,k3⟩:=st_least (p:=fun k=>L2.way t.mask h k∉t.place.toList) c hc
 exact⟨K,by omega,k2,fun k hk=>Classical.not_not.mp (k3 k hk)⟩
theorem TabW.before {t:SetTable}{hs:List Int}(T:TabW t hs){h:Int}{K i j:Nat}(hK:L2.way t.mask h K∉t.place.toList)(hi:hs[i]? =some h)(hj:t.place.toList[i]? =some j): ∃k,k<K∧L2.way t.mask h k=j:=by
 have hz:(hs.zip t.place.toList)[i]? =some (h,j):=List.getElem?_zip_eq_some.mpr ⟨hi,hj⟩
 obtain⟨k,k1,k2⟩:=T.way (h,j) (List.mem_of_getElem? hz)
 refine⟨k,?_,k1⟩
 rcases Nat.lt_or_ge k K with c|c
 ·exact c
 ·refine absurd ?_ hK
  rcases Nat.eq_or_lt_of_le c with c|c
  ·rw[c]
   have:L2.way t.mask h k=j:=k1
   rw[this]
   exact List.mem_of_getElem? hj
  ·exact k2 K c
theorem b6H {α β:Type}{l:List α}{r:List β}{p:Nat}(h:l.length=r.length)(x:α)(y:β){q:α×β}(hq:q∈(l.take p++x::l.drop p).zip (r.take p++y::r.drop p)):q=(x,y)∨q∈l.zip r:=by
 rw[List.zip_append (by simp[h]),List.mem_append,List.zip_cons_cons,List.mem_cons]at hq
 have e1:(l.take p).zip (r.take p)=(l.zip r).take p:=by simp[List.zip,List.take_zipWith]
 have e2:(l.drop p).zip (r.drop p)=(l.zip r).drop p:=by simp[List.zip,List.drop_zipWith]
 rw[e1,e2]at hq
 rcases hq with h|h|h
 ·exact .inr (List.mem_of_mem_take h)
 ·exact .inl h
 ·exact .inr (List.mem_of_mem_drop h)
theorem TabW.put {t:SetTable}{hs:List Int}(T:TabW t hs){h:Int}{K:Nat}(hK:L2.way t.mask h K∉t.place.toList)(hb: ∀k,k<K→L2.way t.mask h k∈t.place.toList):
  (t.put (L2.way t.mask h K)).2=SetTable.below t.place (L2.way t.mask h K)∧SetTable.below t.place (L2.way t.mask h K)≤hs.length∧
  TabW (t.put (L2.way t.mask h K)).1 (hs.take (SetTable.below t.place (L2.way t.mask h K))++h::hs.drop (SetTable.below t.place (L2.way t.mask h K)))∧
  (t.put (L2.way t.mask h K)).1.mask=t.mask∧(t.put (L2.way t.mask h K)).1.led=t.led∧(t.put (L2.way t.mask h K)).1.fill=hs.length+1:=by
 have hjm:=a5J t.mask h K
 have hpp:=put_place t (L2.way t.mask h K)
 have hdm:=put_dm T.dm (L2.way t.mask h K)
 have hsz:=T.sz
 have hle:SetTable.below t.place (L2.way t.mask h K)≤t.place.toList.length:=by
  have:=(below_cut T.ris (L2.way t.mask h K)).1
  rw[Array.length_toList];exact this
 have hri:=ris_insert T.ris (j:=L2.way t.mask h K) fun e=>hK (List.mem_of_getElem? (by rw[Array.getElem?_toList];exact e))
 have hmem: ∀ {x:Nat},x∈(t.put (L2.way t.mask h K)).1.place.toList↔x=L2.way t.mask h K∨x∈t.place.toList:=fun {x}=>by rw[hpp];exact mem_ins
 have hsize:(t.put (L2.way t.mask h K)).1.place.size=hs.length+1:=by
  rw[←Array.length_toList,hpp,len_ins _ hle,Array.length_toList,hsz]
 have hzl:hs.length=t.place.toList.length:=by simpa using hsz.symm
 refine⟨rfl,by omega,⟨hri,hdm,by rw[len_ins _ (by omega)];exact hsize,T.mok,fun x hx=> ?_,fun q hq=> ?_⟩,rfl,rfl,?_⟩
 ·rcases hmem.mp hx with z|z
  ·rw[z];exact hjm
  ·exact T.bd x z
 ·rw[hpp]at hq
  rcases b6H hzl _ _ hq with z|z
  ·subst z
   exact⟨K,rfl,fun k hk=>hmem.mpr (.inr (hb k hk))⟩
  ·obtain⟨k,k1,k2⟩:=T.way q z
   exact⟨k,k1,fun k' hk=>hmem.mpr (.inr (k2 k' hk))⟩
 ·show(t.put (L2.way t.mask h K)).1.place.size+(t.put (L2.way t.mask h K)).1.dummies.size=hs.length+1
  rw[hsize,hdm]
  rfl
theorem Wid.next {m:Nat}(hm:Wid m){done:List Int}{owner:Array (Option Nat)}(W:Own m done owner)(hl:done.length≤m)(h:Int):
  ∃j,SetTable.layClean.free m owner (SetTable.turns m) (SetTable.bits h%(m+1)) (SetTable.bits h)=some j∧Own m (done++[h]) (owner.setIfInBounds j (some done.length)):=by
 obtain⟨ps,ps1,ps2⟩:=W.ps
 obtain⟨j,j1,j2⟩:=st_missing ps (m+1) (by omega)
 have jf:oAt owner j=none:=Classical.byContradiction fun z=>j2 (ps2 j (by omega) z)
 obtain⟨n,n1,n2⟩:=hm.run h (j:=j) (by omega)
 have at_n:L2.way m h (off m (SetTable.bits h%(m+1)) (SetTable.bits h) n)=j:=by
  unfold L2.way
  rw[nth_off,itL_run]
  exact n2
 obtain⟨K,k1,k2,k3⟩:=st_least (p:=fun k=>oAt owner (L2.way m h k)=none) (off m (SetTable.bits h%(m+1)) (SetTable.bits h) n) (by simp only[at_n,jf])
 have fr:=free_spec m owner (SetTable.turns m) n (SetTable.bits h%(m+1)) (SetTable.bits h) K n1 k1
  (fun k hk=>by
   have:=k3 k hk
   cases z:oAt owner (nth m (runAt m (SetTable.bits h%(m+1)) (SetTable.bits h)) k).j with
   |none=>exact absurd z this
   |some _=>rfl)
  (by rw[Option.isNone_iff_eq_none];exact k2)
 have wi:=a5J m h K
 have ws:L2.way m h K<owner.size:=by rw[W.sz];omega
 have hat: ∀i,oAt (owner.setIfInBounds (L2.way m h K) (some done.length)) i=if i=L2.way m h K then some done.length else oAt owner i:=fun i=>by
  split
  ·rename_i e;rw[e];exact oAt_set_self _ ws
  ·rename_i e;exact oAt_set_ne _ e
 have full: ∀i,oAt owner i≠none→oAt (owner.setIfInBounds (L2.way m h K) (some done.length)) i≠none:=fun i hi=>by
  rw[hat]
  split
  ·exact fun z=>by cases z
  ·exact hi
 refine⟨L2.way m h K,fr,⟨by rw[Array.size_setIfInBounds];exact W.sz,fun i k hi e=> ?_,fun k hk=> ?_,L2.way m h K::ps,by simp[ps1],fun i hi e=> ?_⟩⟩
 ·rw[hat]at e
  split at e
  ·rename_i ei
   cases e
   exact⟨h,K,by simp,ei.symm,fun k' hk'=>full _ (k3 k' hk')⟩
  ·obtain⟨h',K',a1,a2,a3⟩:=W.at_ i k hi e
   exact⟨h',K',by rw[List.getElem?_append_left (List.getElem?_eq_some_iff.mp a1).1];exact a1,a2,fun k' hk'=>full _ (a3 k' hk')⟩
 ·rcases Nat.lt_or_ge k done.length with c|c
  ·obtain⟨i,i1,i2⟩:=W.all k c
   refine⟨i,i1,?_⟩
   rw[hat,if_neg fun z=> ?_]
   ·exact i2
   ·    rw[z]at i2
        rw[i2]at k2
        cases k2
  ·refine⟨L2.way m h K,wi,?_⟩
   rw[hat,if_pos rfl]
   simp at hk
   congr 1
   omega
 ·rw[hat]at e
  split at e
  ·rename_i ei
   simp[ei]
  ·exact List.mem_cons_of_mem _ (ps2 i hi e)
theorem Wid.fold {m:Nat}(hm:Wid m): ∀(rest done:List Int) (owner:Array (Option Nat)),Own m done owner→done.length+rest.length≤m→
  ∃o2,rest.foldl (stepF m) (some (owner,done.length))=some (o2,done.length+rest.length)∧Own m (done++rest) o2:=by
 intro rest
 induction rest with
 |nil=>exact fun done owner W _=>⟨owner,rfl,by simpa using W⟩
 |cons h rest ih=>
  intro done owner W hl
  simp only[List.length_cons]at hl
  obtain⟨j,j1,j2⟩:=hm.next W (by omega) h
  obtain⟨o2,r1,r2⟩:=ih (done++[h]) _ j2 (by simp;omega)
  refine⟨o2,?_,by simpa using r2⟩
  rw[List.foldl_cons,stepF_some j1]
  simpa[Nat.add_assoc,Nat.add_comm 1]using r1
theorem b6J (t:SetTable){hs:Array Int}{wanted M:Nat}(hw:SetTable.sizeAbove wanted-1=M)(hM:Wid M)(hn:hs.size≤M):
  ∃t' order,t.relaid hs wanted=some (t',order)∧order.toList.Perm (List.range hs.size)∧TabW t' (order.toList.map fun i=>hs.getD i 0)∧t'.mask=M∧t'.led=t.led:=by
 obtain⟨owner,f,W⟩:=hM.fold hs.toList [] _ (Own.init M) (by simpa using hn)
 simp only[List.length_nil,Nat.zero_add,List.nil_append]at f W
 have hr:t.relaid hs wanted=some (tabOf t M owner,((liveOf M owner).map (·.2)).toArray):=by
  rw[relaid_eq,hw,layClean_eq,f]
  rfl
 have ris:=ris_live (fun j=>owner.getD j none) (List.range (M+1)) List.pairwise_lt_range
 have r1:Ris ((liveOf M owner).map (·.1)):=ris.1
 have ml:=fun(j k:Nat)=>mem_live (j:=j) (k:=k) W.sz
 have has: ∀k,k<hs.size→k∈(liveOf M owner).map (·.2):=fun k hk=>by
  obtain⟨j,j1,j2⟩:=W.all k (by rw[Array.length_toList];exact hk)
  exact List.mem_map.mpr ⟨(j,k),(ml j k).mpr ⟨j1,j2⟩,rfl⟩
 have hlen:(liveOf M owner).length=hs.size:=by
  obtain⟨ps,ps1,ps2⟩:=W.ps
  rw[Array.length_toList]at ps1
  have nd1:((liveOf M owner).map (·.1)).Nodup:=by
   have r:=r1
   unfold Ris at r
   exact r.imp fun c=>by omega
  have up:=nat_nodup_len _ ps nd1 fun x hx=>by
   obtain⟨⟨j,k⟩,hq,rfl⟩:=List.mem_map.mp hx
   obtain⟨b1,b2⟩:=(ml j k).mp hq
   exact ps2 j b1 (by rw[b2];exact fun z=>by cases z)
  have lo:=nat_nodup_len (List.range hs.size) ((liveOf M owner).map (·.2)) List.nodup_range fun k hk=>has k (List.mem_range.mp hk)
  simp only[List.length_map,List.length_range]at up lo
  have e:hs.toList.length=hs.size:=rfl
  have e2:ps.length=hs.size:=ps1
  clear ps1 e
  omega
 refine⟨_,_,hr,perm_range hs.size _ (by simpa using hlen) has,⟨r1,rfl,by simp[tabOf],hM,fun x hx=> ?_,fun q hq=> ?_⟩,rfl,rfl⟩
 ·have hx:x∈(liveOf M owner).map (·.1):=hx
  obtain⟨⟨j,k⟩,hq,rfl⟩:=List.mem_map.mp hx
  exact((ml j k).mp hq).1
 ·have hq:q∈(((liveOf M owner).map (·.2)).map fun i=>hs.getD i 0).zip ((liveOf M owner).map (·.1)):=hq
  rw[List.map_map,List.zip_map',List.mem_map]at hq
  obtain⟨⟨j,k⟩,hm,rfl⟩:=hq
  obtain⟨b1,b2⟩:=(ml j k).mp hm
  obtain⟨h0,K,a1,a2,a3⟩:=W.at_ j k b1 b2
  have eh:hs.getD k 0=h0:=by
   rw[Array.getElem?_toList]at a1
   simp[Array.getD_eq_getD_getElem?,a1]
  refine⟨K,?_,fun k' hk'=> ?_⟩
  ·show L2.way M (hs.getD k 0) K=j
   rw[eh];exact a2
  ·show L2.way M (hs.getD k 0) k'∈(liveOf M owner).map (·.1)
   rw[eh]
   cases z:oAt owner (L2.way M h0 k')with
   |none=>exact absurd z (a3 k' hk')
   |some c=>exact List.mem_map.mpr ⟨(_,c),(ml _ c).mpr ⟨a5J M h0 k',z⟩,rfl⟩
theorem bx0:SetTable.sizeAbove (SetTable.grown 77)=512:=by decide+kernel
end Fz
namespace Fz
open PySem PySem.Spec PyProof.Rows L2
section
variable {P:Program} {w:World}
def NIs (h:Heap)(k:NestedKey)(v:Value):Prop:=(∃a,v= .ref a)∧NestedIs h k v∧k.depth≤8
theorem NIs.keep {h h':Heap}{k:NestedKey}{v:Value}(x:NIs h k v)(hk: ∀c o,h.get? c=some o→h'.get? c=some o):NIs h' k v:=
 ⟨x.1,NestedIs.at (fun a o _ _ e _=>hk a o e) k v x.2.1,x.2.2⟩
theorem NIs.sameBut {h h':Heap}{k:NestedKey}{v:Value}{a:Addr}{o:Obj}{es:Array (Int×Value)}{ep:Nat}{t:SetTable}(x:NIs h k v)(ho:h.get? a=some o)(hd:o.data= .set es ep t)(hs:Heap.SameBut a h h'):NIs h' k v:=
 ⟨x.1,NestedIs.at (fun b ob vs n hb hc=>by
  refine(hs.2 b fun e=> ?_).trans hb
  subst e
  rw[ho]at hb
  cases hb
  rw[hd]at hc
  cases hc) k v x.2.1,x.2.2⟩
def aJ1 (P:Program)(w:World)(n:Nat)(s:Shared)(v:Value):Prop:= ∀(A:Around) (E:Value→Shared→Prop) (Q:Bool→Shared→Prop),Q false s→wpAny (model P w) A (ofAClassStatement n v) Q E s
theorem b6L {n:Nat}{s:Shared}{a:Addr}{o:Obj}{vs:Array Value}{m:Nat}(ho:s.heap.get? a=some o)(hc:o.cls= .type "tuple")(hd:o.data= .seq vs m)(hq: ∀v∈vs.toList,aJ1 P w n s v):aJ1 P w (n+1) s (.ref a):=fun A E Q h=>by
 have hT:s.TypeIs (.ref a) "tuple":=⟨o,ho,hc⟩
 unfold ofAClassStatement
 refine wpAny_bind (wpAny_typeOf hT ?_)
 dsimp only
 have e:(("tuple":String)=="tuple")=true:=by decide
 simp only[e,if_true,Bool.not_true,Bool.false_eq_true,if_false]
 try refine wpAny_bind (wpAny_pure ?_)
 try simp only[Bool.not_true,Bool.false_eq_true,if_false]
 show wpAny _ _ (seqItems? (.ref a)>>=_) _ _ s
 refine wpAny_bind (wpAny_seqItems ho hd ?_)
 dsimp only
 refine wpAny_bind ?_
 show wpAny _ _ (forIn vs _ _) _ _ s
 rw[←Array.forIn_toList]
 refine wpAny_forIn_list _ (fun rest r s'=>r.1=none∧s'=s∧ ∀v∈rest,aJ1 P w n s v) _ ?_ ?_ _ _ ⟨rfl,rfl,hq⟩
 ·rintro v rest r s' ⟨hr,rfl,hall⟩
  refine wpAny_bind (hall v List.mem_cons_self _ _ _ ?_)
  simp only[Bool.false_eq_true,if_false]
  exact wpAny_pure ⟨rfl,rfl,fun u hu'=>hall u (List.mem_cons_of_mem _ hu')⟩
 ·rintro⟨r1,r2⟩ s' ⟨hr,rfl,_⟩
  simp only at hr
  subst hr
  exact wpAny_pure h
theorem a5O {n:Nat}{s:Shared}{v:Value}(h: ∀a,v≠ .ref a):aJ1 P w n s v:=fun A E Q q=>by
 have e:ofAClassStatement n v=pure false:=by
  cases v<;>first|(cases n<;>rfl)|exact absurd rfl (h _)
 rw[e]
 exact wpAny_pure q
mutual
theorem a5P: ∀(k:NestedKey) (v:Value) (n:Nat) (s:Shared),NestedIs s.heap k v→k.depth≤n→aJ1 P w n s v
 | .none,_,n,s,x,_=>by cases x;exact a5O fun _ z=>nomatch z
 | .num i,_,n,s,x,_=>by cases x<;>exact a5O fun _ z=>nomatch z
 | .text y,_,n,s,x,_=>by cases x;exact a5O fun _ z=>nomatch z
 | .tup ks,_,n,s,x,hn=>by
   cases x with
   |tup hg hc hd hk=>
    simp only[NestedKey.depth]at hn
    cases n with
    |zero=>omega
    |succ n=>exact b6L hg hc hd (bx2 ks _ n s hk (by omega))
theorem bx2: ∀(ks:List NestedKey) (vs:List Value) (n:Nat) (s:Shared),NestedAll s.heap ks vs→NestedKey.depthAll ks≤n→ ∀v∈vs,aJ1 P w n s v
 | [],_,n,s,x,_,v,hv=>by cases x;cases hv
 |k::ks,_,n,s,x,hn,v,hv=>by
  cases x with
  |cons x1 x2=>
   simp only[NestedKey.depthAll]at hn
   rcases List.mem_cons.mp hv with e|hv
   ·rw[e];exact a5P k _ n s x1 (by omega)
   ·exact bx2 ks _ n s x2 (by omega) v hv
end
def aJ2 (P:Program)(w:World)(n:Nat)(s:Shared)(v:Value):Prop:= ∀(A:Around) (E:Value→Shared→Prop) (Q:Bool→Shared→Prop),(∀b,Q b s)→wpAny (model P w) A (hashByValue n v) Q E s
theorem b6M {n:Nat}{s:Shared}{a:Addr}{o:Obj}{vs:Array Value}{m:Nat}(ho:s.heap.get? a=some o)(hc:o.cls= .type "tuple")(hd:o.data= .seq vs m)(hq: ∀v∈vs.toList,aJ2 P w n s v):aJ2 P w (n+1) s (.ref a):=fun A E Q h=>by
 have hT:s.TypeIs (.ref a) "tuple":=⟨o,ho,hc⟩
 unfold hashByValue
 refine wpAny_bind (wpAny_specialOf hT F.slot_tuple_hash.lookup ?_)
 show wpAny _ _ (seqItems? (.ref a)>>=_) _ _ s
 refine wpAny_bind (wpAny_seqItems ho hd ?_)
 refine wpAny_bind ?_
 show wpAny _ _ (forIn vs _ _) _ _ s
 rw[←Array.forIn_toList]
 refine wpAny_forIn_list _ (fun rest r s'=>r.1=none∧s'=s∧ ∀v∈rest,aJ2 P w n s v) _ ?_ ?_ _ _ ⟨rfl,rfl,hq⟩
 ·rintro v rest r s' ⟨hr,rfl,hall⟩
  refine wpAny_bind (hall v List.mem_cons_self _ _ _ fun b=> ?_)
  cases b
  ·simp only[Bool.not_false,if_true]
   exact wpAny_pure (wpAny_pure (h _))
  ·simp only[Bool.not_true,Bool.false_eq_true,if_false]
   exact wpAny_pure ⟨rfl,rfl,fun u hu'=>hall u (List.mem_cons_of_mem _ hu')⟩
 ·rintro⟨r1,r2⟩ s' ⟨hr,rfl,_⟩
  simp only at hr
  subst hr
  exact wpAny_pure (h _)
theorem a5Q {n:Nat}{s:Shared}{v:Value}{b:Bool}(e:hashByValue n v=pure b):aJ2 P w n s v:=fun A E Q q=>by
 rw[e]
 exact wpAny_pure (q _)
mutual
theorem a5R: ∀(k:NestedKey) (v:Value) (n:Nat) (s:Shared),NestedIs s.heap k v→k.depth≤n→aJ2 P w n s v
 | .none,_,n,s,x,_=>by cases x;exact a5Q (b:=true) (by cases n<;>rfl)
 | .num i,_,n,s,x,_=>by cases x<;>exact a5Q (b:=true) (by cases n<;>rfl)
 | .text y,_,n,s,x,_=>by cases x;exact a5Q (b:=false) (by cases n<;>rfl)
 | .tup ks,_,n,s,x,hn=>by
   cases x with
   |tup hg hc hd hk=>
    simp only[NestedKey.depth]at hn
    cases n with
    |zero=>omega
    |succ n=>exact b6M hg hc hd (bx3 ks _ n s hk (by omega))
theorem bx3: ∀(ks:List NestedKey) (vs:List Value) (n:Nat) (s:Shared),NestedAll s.heap ks vs→NestedKey.depthAll ks≤n→ ∀v∈vs,aJ2 P w n s v
 | [],_,n,s,x,_,v,hv=>by cases x;cases hv
 |k::ks,_,n,s,x,hn,v,hv=>by
  cases x with
  |cons x1 x2=>
   simp only[NestedKey.depthAll]at hn
   rcases List.mem_cons.mp hv with e|hv
   ·rw[e];exact a5R k _ n s x1 (by omega)
   ·exact bx3 ks _ n s x2 (by omega) v hv
end
variable {A:Around} {E:Value→Shared→Prop} {s:Shared}
theorem b6N {k:NestedKey}{v:Value}{Q:Bool→Shared→Prop}(hk:NIs s.heap k v){ys:List Value}(hy: ∀y∈ys,∃k',NIs s.heap k' y)(h:Q false s):
  wpAny (model P w) A (searchCouldBeSeen v ys) Q E s:=by
 obtain⟨⟨b,rfl⟩,hk1,hk2⟩:=hk
 unfold searchCouldBeSeen
 refine wpAny_bind ?_
 refine wpAny_forIn_list _ (fun rest r s'=>r.1=none∧s'=s∧ ∀y∈rest,∃k',NIs s.heap k' y) _ ?_ ?_ _ _ ⟨rfl,rfl,hy⟩
 ·rintro v rest r s' ⟨hr,rfl,hall⟩
  obtain⟨k',⟨c,rfl⟩,hc1,hc2⟩:=hall v List.mem_cons_self
  have rest': ∀y∈rest,∃k',NIs s'.heap k' y:=fun u hu'=>hall u (List.mem_cons_of_mem _ hu')
  dsimp only
  by_cases hv:(b==c||(carriedByValue (.ref b)&&carriedByValue (.ref c)))=true
  ·refine wp_if_pos hv ?_
   exact wpAny_pure ⟨rfl,rfl,rest'⟩
  ·refine wp_if_neg hv ?_
   refine wpAny_bind (quiet_key k _ 8 s' hk1 hk2 _ _ _ ?_)
   simp only[Bool.not_true,Bool.false_eq_true,if_false]
   refine wpAny_bind (quiet_key k' _ 8 s' hc1 hc2 _ _ _ ?_)
   simp only[Bool.not_true,Bool.false_eq_true,if_false]
   refine wpAny_bind (a5P k _ 8 s' hk1 hk2 _ _ _ ?_)
   simp only[Bool.false_eq_true,if_false]
   refine wpAny_bind (a5P k' _ 8 s' hc1 hc2 _ _ _ ?_)
   simp only[Bool.false_eq_true,if_false]
   exact wpAny_pure ⟨rfl,rfl,rest'⟩
 ·rintro⟨r1,r2⟩ s' ⟨hr,rfl,_⟩
  simp only at hr
  subst hr
  exact wpAny_pure h
abbrev nh (w:World)(k:NestedKey):Int:=k.hash w
def ah0 (w:World)(L:List (Value×NestedKey)):List (Int×Value):=L.map fun p=>(nh w p.2,p.1)
structure ai5 (w:World)(h:Heap)(a:Addr)(L:List (Value×NestedKey))(es:Array (Int×Value))(ep:Nat)(t:SetTable):Prop where
 ob: ∃o,h.get? a=some o∧o.ExactSet∧o.data= .set es ep t
 rows:es.toList=ah0 w L
 tab:TabW t (L.map fun p=>nh w p.2)
 nd:(L.map (·.2)).Nodup
 mem: ∀p∈L,NIs h p.2 p.1
 led:w.params.followText "set-order"=true∨t.led=true
 room:L.length*5<t.mask*3
variable {a:Addr} {L:List (Value×NestedKey)} {es:Array (Int×Value)} {ep:Nat} {t:SetTable}
theorem aR6 {es:Array (Int×Value)}{L:List (Value×NestedKey)}(h:es.toList=ah0 w L):es.size=L.length:=by
 have h:=congrArg List.length h
 unfold ah0 at h
 rw[Array.length_toList,List.length_map]at h
 exact h
theorem ai5.size {h:Heap}(R:ai5 w h a L es ep t):es.size=L.length:=aR6 R.rows
theorem ai5.few {h:Heap}(R:ai5 w h a L es ep t):L.length≤306:=by
 have:=R.room
 rcases R.tab.mok.is with e|e|e|e<;>omega
theorem ai5.fits {h:Heap}(R:ai5 w h a L es ep t):t.fits es.size=true:=by
 have h1:=R.tab.sz
 rw[List.length_map]at h1
 have h2:=R.size
 have h3:=R.room
 unfold SetTable.fits SetTable.fill
 rw[R.tab.dm,Bool.and_eq_true,beq_iff_eq,decide_eq_true_eq]
 show t.place.size=es.size∧t.place.size+0≤t.mask
 omega
theorem ai5.entry {h':Heap}(R:ai5 w h' a L es ep t){i:Nat}{p:Value×NestedKey}(h:L[i]? =some p):es[i]? =some (nh w p.2,p.1):=by
 rw[←Array.getElem?_toList,R.rows]
 unfold ah0
 rw[List.getElem?_map,h]<;>rfl
theorem ai5.gw {h:Heap}(R:ai5 w h a L es ep t): ¬t.gaveWay=true:=by
 unfold SetTable.gaveWay
 rw[R.tab.mok.odd]
 decide
theorem b6O {x y:NestedKey}{u v:Value}{Q:Bool→Shared→Prop}(hu:A.units+20<cLine)(hx:NIs s.heap x u)(hy:NIs s.heap y v)(h:Q (decide (x=y)) s):wpAny (model P w) A (eqBool u v) Q E s:=
 eqAt_key x y A s _ _ hx.2.1 hy.2.1 (by have:=hx.2.2;omega) _ _ _ _ (by rw[←NestedKey.decide_eq];exact h)
theorem b6R {v:Value}{Q:Bool→Shared→Prop}(hv: ∃b,v= .ref b)(h:Q true s):wpAny (model P w) A (isSame v v) Q E s:=by
 obtain⟨b,rfl⟩:=hv
 exact wpAny_isSame_ref_self h
theorem bx4 (R:ai5 w s.heap a L es ep t){x:Value}{k:NestedKey}(hx:NIs s.heap k x)(hu:A.units+20<cLine){K:Nat}(hKf:K<10*SetTable.turns t.mask)
  (hK:way t.mask (nh w k) K∉t.place.toList) (hKb: ∀c,c<K→way t.mask (nh w k) c∈t.place.toList) {Q:SetFound→Shared→Prop}
  (hin:k∈L.map (·.2)→Q (.there none) s) (hout:k∉L.map (·.2)→Q (.free (way t.mask (nh w k) K) false) s):
  ∀(f c:Nat) (stand:Option SetTable.Probe),stand.getD (t.probeStart (nh w k))=nth t.mask (runAt t.mask (SetTable.bits (nh w k)%(t.mask+1)) (SetTable.bits (nh w k))) c→c≤K→K-c<f→
   (∀(i:Nat) p,L[i]? =some p→p.2=k→ ∃c',c≤c'∧c'<K∧t.place.toList[i]? =some (way t.mask (nh w k) c'))→
   wpAny (model P w) A (setSearchFrom a x (nh w k) true f stand) Q E s
 |0,c,stand,_,_,hf,_=>absurd hf (Nat.not_lt_zero _)
 |f+    1,c,stand,hst,hc,hf,hre=>by
  obtain⟨o,ho,hex,hd⟩:=R.ob
  rw[setSearchFrom_succ]
  refine wpAny_bind (wpAny_setState_of ho hd R.fits ?_)
  dsimp only
  refine wp_if_neg R.gw ?_
  try refine wpAny_bind (wpAny_pure ?_)
  have hnd:(nth t.mask (runAt t.mask (SetTable.bits (nh w k)%(t.mask+1)) (SetTable.bits (nh w k))) c).dummy=none:=by
   have key: ∀(n:Nat) (p:SetTable.Probe),p.dummy=none→(nth t.mask p n).dummy=none:=by
        intro n
        induction n with
        |zero=>intro p h;exact h
        |succ n ih=>
         intro p h
         refine ih (adv t.mask p) ?_
         unfold adv
         split<;>exact h
   exact key c _ rfl
  have sh: ∀q,nth t.mask (nth t.mask (runAt t.mask (SetTable.bits (nh w k)%(t.mask+1)) (SetTable.bits (nh w k))) c) q=nth t.mask (runAt t.mask (SetTable.bits (nh w k)%(t.mask+1)) (SetTable.bits (nh w k))) (c+q):=fun q=>(nth_add t.mask c _ q).symm
  have e1: ∀q,(nth t.mask (nth t.mask (runAt t.mask (SetTable.bits (nh w k)%(t.mask+1)) (SetTable.bits (nh w k))) c) q).j=way t.mask (nh w k) (c+q):=fun q=>congrArg SetTable.Probe.j (sh q)
  have spec:=go_spec t R.tab.ris R.tab.dm (fun i=>(es[i]?.map (·.1)).getD 0) (nh w k) (10*SetTable.turns t.mask) (K-c) _ hnd (by omega)
   (fun q hq=>by rw[e1];exact hKb (c+q) (by omega)) (by rw[e1,show c+(K-c)=K by omega];exact hK)
  have hashAt: ∀(i:Nat) p,L[i]? =some p→(fun i=>(es[i]?.map (·.1)).getD 0) i=nh w p.2:=fun i p hp=>by
   show(es[i]?.map (·.1)).getD 0=_
   rw[R.entry hp]<;>rfl
  rcases spec with⟨q,i,hq,hi,hh,hno,hpr⟩|⟨hno,hpr⟩
  ·have hpr':t.probe (fun i=>(es[i]?.map (·.1)).getD 0) (nh w k) (stand.getD (t.probeStart (nh w k)))=some (.candidate (way t.mask (nh w k) (c+q)) i (nth t.mask (runAt t.mask (SetTable.bits (nh w k)%(t.mask+1)) (SetTable.bits (nh w k))) (c+(q+1)))):=by
        rw[hst,←e1,←sh]
        exact hpr
   rw[hpr']
   dsimp only
   rw[e1]at hi
   have hil:i<L.length:=by
        have h1:i<t.place.toList.length:=(List.getElem?_eq_some_iff.mp hi).1
        have h2:=R.tab.sz
        rw[List.length_map]at h2
        rw[Array.length_toList]at h1
        omega
   have hp:L[i]? =some L[i]:=List.getElem?_eq_getElem hil
   generalize hpe:L[i]=p at hp
   have hmem:p∈L:=List.mem_of_getElem? hp
   have hpt:=R.mem p hmem
   have rest:wpAny (model P w) A (searchRest a x (nh w k) true f es t (way t.mask (nh w k) (c+q)) i (nth t.mask (runAt t.mask (SetTable.bits (nh w k)%(t.mask+1)) (SetTable.bits (nh w k))) (c+(q+1)))) Q E s:=by
        unfold searchRest
        rw[R.entry hp]
        dsimp only
        refine wpAny_bind (wpAny_holding (b6O hu hpt hx ?_))
        refine wpAny_bind (wpAny_setState_of ho hd R.fits ?_)
        dsimp only
        by_cases hkk:p.2=k
        ·refine wp_if_pos (by simp[hkk]) ?_
         refine wpAny_pure (hin ?_)
         exact List.mem_map.mpr ⟨p,hmem,hkk⟩
        ·refine wp_if_neg (by simp[hkk]) ?_
         try refine wpAny_bind (wpAny_pure ?_)
         rw[sameMem]
         dsimp only
         have hsl:t.slot (way t.mask (nh w k) (c+q))= .live i:=slot_live R.tab.ris hi
         simp only[if_true,hsl,R.entry hp]
         refine wpAny_bind (b6R hpt.1 (wpAny_bind (wpAny_pure ?_)))
         simp only[if_true]
         refine wp_if_neg (by simp[hkk]) ?_
         refine bx4 R hx hu hKf hK hKb hin hout f (c+(q+1)) _ rfl (by omega) (by omega) fun i0 p0 h0 hk0=> ?_
         obtain⟨c',a1,a2,a3⟩:=hre i0 p0 h0 hk0
         refine⟨c',?_,a2,a3⟩
         rcases Nat.lt_or_ge c' (c+q)with z|z
         ·exfalso
          refine hno (c'-c) i0 (by omega) (by rw[e1,show c+(c'-c)=c' by omega];exact a3) ?_
          exact(hashAt i0 p0 h0).trans (congrArg (nh w) hk0)
         ·rcases Nat.lt_or_ge (c+q) c' with y|y
          ·omega
          · exfalso
            have ec:c'=c+q:=Nat.le_antisymm y z
            rw[ec]at a3
            have s0:=slot_live R.tab.ris a3
            rw[hsl]at s0
            injection s0 with s0
            rw[←s0,hp]at h0
            exact hkk ((congrArg Prod.snd (Option.some.inj h0)).trans hk0)
   by_cases hl:t.led=true
   ·    refine wp_if_neg (by simp[hl]) ?_
        try refine wpAny_bind (wpAny_pure ?_)
        exact rest
   ·    refine wp_if_pos (by simp[hl]) ?_
        refine wpAny_bind (b6N hx (fun y hy=> ?_) ?_)
        ·obtain⟨e,he,ee⟩:=List.mem_map.mp hy
         have he1:e∈es∧e.1=nh w k:=by simpa using he
         have he2:e∈es.toList:=by simpa using he1.1
         rw[R.rows]at he2
         obtain⟨p2,hp2,e2⟩:=List.mem_map.mp he2
         refine⟨p2.2,?_⟩
         rw[←ee,←e2]
         exact R.mem p2 hp2
        ·refine wp_if_neg (by decide) ?_
         try refine wpAny_bind (wpAny_pure ?_)
         exact rest
  ·have hpr':t.probe (fun i=>(es[i]?.map (·.1)).getD 0) (nh w k) (stand.getD (t.probeStart (nh w k)))=some (.empty (way t.mask (nh w k) K) none):=by
        have e2:way t.mask (nh w k) K=(nth t.mask (nth t.mask (runAt t.mask (SetTable.bits (nh w k)%(t.mask+1)) (SetTable.bits (nh w k))) c) (K-c)).j:=by
         rw[e1,show c+(K-c)=K by omega]
        rw[hst,e2]
        exact hpr
   rw[hpr']
   dsimp only
   refine wpAny_pure (hout fun hm=> ?_)
   obtain⟨p0,h0,hk0⟩:=List.mem_map.mp hm
   obtain⟨i0,hi0,e0⟩:=List.getElem_of_mem h0
   have h00:L[i0]? =some p0:=by rw[List.getElem?_eq_getElem hi0,e0]
   obtain⟨c',a1,a2,a3⟩:=hre i0 p0 h00 hk0
   refine hno (c'-c) i0 (by omega) (by rw[e1,show c+(c'-c)=c' by omega];exact a3) ?_
   exact(hashAt i0 p0 h00).trans (congrArg (nh w) hk0)
theorem b6S (R:ai5 w s.heap a L es ep t){x:Value}{k:NestedKey}(hx:NIs s.heap k x)(hu:A.units+20<cLine){Q:SetFound→Shared→Prop}
  (hin:k∈L.map (·.2)→Q (.there none) s)
  (hout: ∀K,k∉L.map (·.2)→way t.mask (nh w k) K∉t.place.toList→(∀c,c<K→way t.mask (nh w k) c∈t.place.toList)→Q (.free (way t.mask (nh w k) K) false) s):
  wpAny (model P w) A (setSearch a x (nh w k) true) Q E s:=by
 have hroom:=R.room
 obtain⟨K,hKf,hK,hKb⟩:=R.tab.first (by rw[List.length_map];omega) (nh w k)
 have hbig:K<100000:=by
  have:10*SetTable.turns t.mask≤6000:=by
   unfold SetTable.turns
   rcases R.tab.mok.is with e|e|e|e<;>omega
  omega
 unfold setSearch
 refine bx4 R hx hu hKf hK hKb hin (fun hn=>hout K hn hK hKb) 100000 0 none rfl (Nat.zero_le _) (by omega) fun i p hp hk=> ?_
 have hi:(L.map fun p=>nh w p.2)[i]? =some (nh w k):=by rw[List.getElem?_map,hp,←hk]<;>rfl
 have hil:i<t.place.toList.length:=by
  have h1:i<L.length:=(List.getElem?_eq_some_iff.mp hp).1
  have h2:=R.tab.sz
  rw[List.length_map]at h2
  rw[Array.length_toList]
  omega
 have hj:=List.getElem?_eq_getElem hil
 obtain⟨c,hc,e⟩:=R.tab.before hK hi hj
 exact⟨c,Nat.zero_le _,hc,by rw[hj,e]⟩
end
end Fz
namespace Fz
open PySem PySem.Spec PyProof.Rows L2
section
variable {P:Program} {w:World} {A:Around} {E:Value→Shared→Prop} {s:Shared}
theorem b6T (L:List (Value×NestedKey))(es:Array (Int×Value))(order:Array Nat)(hr:es.toList=ah0 w L)(hp:order.toList.Perm (List.range L.length)):
  ∃L2,(order.filterMap (es[·]?)).toList=ah0 w L2∧L2.Perm L∧(L2.map fun p=>nh w p.2)=order.toList.map fun i=>(es.map (·.1)).getD i 0:=by
 have hsz:es.size=L.length:=aR6 hr
 have ent: ∀i (h:i<L.length),es[i]? =some (nh w (L[i]).2,(L[i]).1):=fun i h=>by
  rw[←Array.getElem?_toList,hr]
  unfold ah0
  rw[List.getElem?_map,List.getElem?_eq_getElem h]<;>rfl
 have key: ∀l:List Nat,(∀i∈l,i<L.length)→ ∃L2:List (Value×NestedKey),l.filterMap (fun i=>es[i]?)=ah0 w L2∧L2=l.filterMap (fun i=>L[i]?)∧(L2.map fun p=>nh w p.2)=l.map fun i=>(es.map (·.1)).getD i 0:=by
  intro l
  induction l with
  |nil=>intro _;exact⟨[],rfl,rfl,rfl⟩
  |cons i l ih=>
   intro hl
   have hi:=hl i List.mem_cons_self
   obtain⟨L2,e1,e2,e3⟩:=ih fun j hj=>hl j (List.mem_cons_of_mem _ hj)
   refine⟨L[i]::L2,?_,?_,?_⟩
   ·rw[List.filterMap_cons_some (ent i hi),e1]<;>rfl
   ·rw[List.filterMap_cons_some (List.getElem?_eq_getElem hi),e2]
   ·    rw[List.map_cons,List.map_cons,e3]
        have hi2:i<(es.map (·.1)).size:=by rw[Array.size_map,hsz];exact hi
        have e4:(es.map (·.1)).getD i 0=nh w (L[i]).2:=by
         have e5:(es.map (·.1))[i]? =some (nh w (L[i]).2):=by rw[Array.getElem?_map,ent i hi]<;>rfl
         simp[Array.getD_eq_getD_getElem?,e5]
        rw[e4]
 obtain⟨L2,e1,e2,e3⟩:=key order.toList fun i hi=>List.mem_range.mp (hp.mem_iff.mp hi)
 refine⟨L2,by first|(rw[Array.toList_filterMap];exact e1)|simpa using e1,?_,e3⟩
 have h1:L2.Perm ((List.range L.length).filterMap fun i=>L[i]?):=by
  rw[e2]
  exact hp.filterMap _
 have h2:(List.range L.length).filterMap (fun i=>L[i]?)=L:=by
  have key2: ∀n,n≤L.length→(List.range n).filterMap (fun i=>L[i]?)=L.take n:=by
   intro n
   induction n with
   |zero=>intro _;rfl
   |    succ n ih=>
        intro hn
        have hlt:n<L.length:=hn
        rw[List.range_succ,List.filterMap_append,ih (Nat.le_of_lt hlt),List.take_succ,List.getElem?_eq_getElem hlt]
        rw[List.filterMap_cons_some (List.getElem?_eq_getElem hlt)]<;>rfl
  rw[key2 L.length (Nat.le_refl _),List.take_length]
 rw[h2]at h1
 exact h1
theorem b6U (L:List (Value×NestedKey))(p:Nat)(x:Value)(k:NestedKey):ah0 w (L.take p++(x,k)::L.drop p)=(ah0 w L).take p++(nh w k,x)::(ah0 w L).drop p:=by
 unfold ah0
 rw[List.map_append,List.map_cons,List.map_take,List.map_drop]
variable {a:Addr} {L:List (Value×NestedKey)} {es:Array (Int×Value)} {ep:Nat} {t:SetTable}
theorem b6W {o:Obj}(ho:s.heap.get? a=some o)(hex:o.ExactSet)(hd:o.data= .set es ep t)(hrows:es.toList=ah0 w L)(hsz:t.place.size=es.size)(hdm:t.dummies= #[])(hfl:es.size≤t.mask)
  (nd:(L.map (·.2)).Nodup) (tup: ∀p∈L,NIs s.heap p.2 p.1) (ld:w.params.followText "set-order"=true∨t.led=true) {wanted M:Nat}
  (hw:SetTable.sizeAbove wanted-1=M) (hM:Wid M) (hw2:SetTable.sizeAbove wanted≤512) (hn:L.length*5<M*3) {Q:Unit→Shared→Prop}
  (hQ: ∀h' L' es' ep' t',Heap.SameBut a s.heap h'→ai5 w h' a L' es' ep' t'→L'.Perm L→Q () { s with heap:=h' }):wpAny (model P w) A (setRelay a wanted) Q E s:=by
 have hsl:es.size=L.length:=aR6 hrows
 have hfits:t.fits es.size=true:=by
  unfold SetTable.fits SetTable.fill
  rw[hdm,Bool.and_eq_true,beq_iff_eq,decide_eq_true_eq]
  show t.place.size=es.size∧t.place.size+0≤t.mask
  omega
 have hM128:M≤511:=by rcases hM.is with e|e|e|e<;>omega
 obtain⟨t',order,e,hp,T,em,el⟩:=b6J t (hs:=es.map (·.1)) (wanted:=wanted) hw hM (by rw[Array.size_map,hsl];omega)
 rw[Array.size_map,hsl]at hp
 obtain⟨L2,r1,r2,r3⟩:=b6T L es order hrows hp
 rw[←r3]at T
 have hs2:(order.filterMap (es[·]?)).size=es.size:=by rw[aR6 r1,r2.length_eq,hsl]
 rw[setRelay_eq]
 refine wpAny_bind (wpAny_setState_of ho hd hfits ?_)
 dsimp only
 refine wp_if_neg (by rw[sizeLine_eq];omega) ?_
 try refine wpAny_bind (wpAny_pure ?_)
 rw[e]
 dsimp only
 refine wpAny_bind ?_
 refine wp_if_neg (by rw[hs2];simp) ?_
 try refine wpAny_bind (wpAny_pure ?_)
 refine wpAny_pure ?_
 dsimp only
 refine wpAny_storeSet_of ho hd ?_ (by rw[hs2,hsl,sizeLine_eq];omega)
 have sb:Heap.SameBut a s.heap (s.heap.update a (Obj.putSet (order.filterMap (es[·]?)) t')):=Heap.SameBut.update ..
 refine hQ _ L2 (order.filterMap (es[·]?)) (ep+1) t' sb ?_ r2
 refine⟨⟨_,store_at ho hd,⟨hex.1,hex.2.1,hex.2.2⟩,rfl⟩,r1,T,?_,fun p hpm=>(tup p (r2.mem_iff.mp hpm)).sameBut ho hd sb,by rw[el];exact ld,?_⟩
 ·exact(r2.map (·.2)).nodup_iff.mpr nd
 ·rw[r2.length_eq,em]
  exact hn
theorem b6Z {t:SetTable}{hs:List Int}{b:Bool}(T:TabW t hs):TabW { t with plain:=b } hs:=⟨T.ris,T.dm,T.sz,T.mok,T.bd,T.way⟩
theorem b60 (R:ai5 w s.heap a L es ep t){x:Value}{k:NestedKey}(hx:NIs s.heap k x)(hu:A.units+20<cLine)(hcap:L.length+1≤306){Q:Bool→Shared→Prop}
  (hQ: ∀b h' L' es' ep' t',Heap.SameBut a s.heap h'→ai5 w h' a L' es' ep' t'→(k∈L.map (·.2)→L'=L)→(k∉L.map (·.2)→L'.Perm ((x,k)::L))→Q b { s with heap:=h' }):
  wpAny (model P w) A (setAddHashed a x (nh w k)) Q E s:=by
 obtain⟨o,ho,hex,hd⟩:=R.ob
 have hsl:=R.size
 have hroom:=R.room
 obtain⟨⟨xa,rfl⟩,hx1,hx2⟩:=id hx
 unfold setAddHashed
 refine wpAny_holding ?_
 rw[show(100000:Nat)=99999+1 from rfl,setAddHashedIn_succ]
 refine wpAny_bind (wpAny_setState_of ho hd R.fits ?_)
 dsimp only
 refine wp_if_neg (by simp[byScan,Value.scannable]) ?_
 try refine wpAny_bind (wpAny_pure ?_)
 refine wpAny_bind (b6S R hx hu (fun hm=> ?_) fun K hm hK hb=> ?_)
 ·dsimp only
  exact wpAny_pure (hQ false s.heap L es ep t (Heap.SameBut.refl a s.heap) R (fun _=>rfl) fun z=>absurd hm z)
 ·dsimp  only
  refine wpAny_bind (wpAny_setState_of ho hd R.fits ?_)
  dsimp only
  obtain⟨q1,q2,q3,q4,q5,q9⟩:=R.tab.put hK hb
  generalize hpt:t.put (way t.mask (nh w k) K)=pt at q1 q3 q4 q5 q9 ⊢
  obtain⟨t1,p⟩:=pt
  dsimp only at q1 q3 q4 q5 q9 ⊢
  subst q1
  have go :   ∀t2:SetTable,TabW t2 ((L.map fun p=>nh w p.2).take (SetTable.below t.place (way t.mask (nh w k) K))++nh w k::(L.map fun p=>nh w p.2).drop (SetTable.below t.place (way t.mask (nh w k) K)))→
        t2.mask=t.mask→t2.led=t.led→t2.fill=(L.map fun p=>nh w p.2).length+1→
        wpAny (model P w) A (do
         storeSet a (SetTable.insertAt es (SetTable.below t.place (way t.mask (nh w k) K)) (nh w k,Value.ref xa)) t2
         if(!false&&t2.tooFull)=true then do
              setRelay a (SetTable.grown (es.size+1))
              pure true
          else pure true) Q E s:=by
   intro t2 q3 q4 q5 q9
   have hin:(SetTable.insertAt es (SetTable.below t.place (way t.mask (nh w k) K)) (nh w k,Value.ref xa)).toList=ah0 w (L.take (SetTable.below t.place (way t.mask (nh w k) K))++(Value.ref xa,k)::L.drop (SetTable.below t.place (way t.mask (nh w k) K))):=by
        rw[SetTable.toList_insertAt,b6U,R.rows]
   generalize hpp:SetTable.below t.place (way t.mask (nh w k) K)=p at q2 q3 hin ⊢
   have pm:=put_perm L p (Value.ref xa,k)
   have hlen:(L.take p++(Value.ref xa,k)::L.drop p).length=L.length+1:=pm.length_eq
   have hhs:(L.take p++(Value.ref xa,k)::L.drop p).map (fun p=>nh w p.2)=(L.map fun p=>nh w p.2).take p++nh w k::(L.map fun p=>nh w p.2).drop p:=by
        rw[List.map_append,List.map_cons,List.map_take,List.map_drop]
   rw[←hhs]at q3
   have nd1:((L.take p++(Value.ref xa,k)::L.drop p).map (·.2)).Nodup:=by
        refine(pm.map (·.2)).nodup_iff.mpr ?_
        rw[List.map_cons]
        exact List.nodup_cons.mpr ⟨hm,R.nd⟩
   have hes:(SetTable.insertAt es p (nh w k,Value.ref xa)).size=L.length+1:=by rw[aR6 hin,hlen]
   generalize SetTable.insertAt es p (nh w k,Value.ref xa)=es1 at hin hes ⊢
   generalize L.take p++(Value.ref xa,k)::L.drop p=L1 at pm hlen q3 nd1 hin
   refine wpAny_bind (wpAny_storeSet_of ho hd ?_ (by rw[hes,sizeLine_eq];omega))
   have sb:Heap.SameBut a s.heap (s.heap.update a (Obj.putSet es1 t2)):=Heap.SameBut.update ..
   have ho1:=store_at (es':=es1) (t':=t2) ho hd
   generalize s.heap.update a (Obj.putSet es1 t2)=h1 at sb ho1 ⊢
   have tup1: ∀p∈L1,NIs h1 p.2 p.1:=fun p hp=>by
        rcases List.mem_cons.mp (pm.mem_iff.mp hp)with e|hp
        ·rw[e];exact hx.sameBut ho hd sb
        ·exact(R.mem p hp).sameBut ho hd sb
   have ld1:w.params.followText "set-order"=true∨t2.led=true:=by rw[q5];exact R.led
   by_cases hf:t2.tooFull=true
   ·    refine wp_if_pos (by simp[hf]) ?_
        refine wpAny_bind ?_
        have hfull:(L.length+1)*5≥t2.mask*3:=by
         have h:=hf
         unfold SetTable.tooFull at h
         rw[decide_eq_true_eq,q9,List.length_map]at h
         exact h
        rw[hsl]
        have hsz1:t2.place.size=es1.size:=by
         have h:=q3.sz
         rw[List.length_map,hlen]at h
         rw[h,hes]
        have cases2:(t.mask=7∧L.length=4)∨(t.mask=31∧L.length=18)∨(t.mask=127∧L.length=76):=by
         rcases R.tab.mok.is with e|e|e|e
         ·left;rw[q4,e]at hfull;rw[e]at hroom;exact⟨e,by omega⟩
         ·right;left;rw[q4,e]at hfull;rw[e]at hroom;exact⟨e,by omega⟩
         ·right;right;rw[q4,e]at hfull;rw[e]at hroom;exact⟨e,by omega⟩
         ·exfalso;rw[q4,e]at hfull;omega
        have go2: ∀M,SetTable.sizeAbove (SetTable.grown (L.length+1))-1=M→Wid M→SetTable.sizeAbove (SetTable.grown (L.length+1))≤512→(L.length+1)*5<M*3→
          wpAny (model P w) A (setRelay a (SetTable.grown (L.length+1))) (fun _ s'=>wpAny (model P w) A (pure true) Q E s') E { s with heap:=h1 }:=fun M h1' h2' h3' h4'=>by
         refine b6W (s:= { s with heap:=h1 }) ho1 ⟨hex.1,hex.2.1,hex.2.2⟩ rfl hin hsz1 q3.dm (by rw[hes,q4];rcases cases2 with⟨e,e2⟩|⟨e,e2⟩|⟨e,e2⟩ <;>omega) nd1 tup1 ld1 h1' h2' h3' (by rw[hlen];exact h4') ?_
         intro h2 L2 es2 ep2 t3 sb2 R2 pm2
         exact wpAny_pure (hQ true h2 L2 es2 ep2 t3 (sb.trans sb2) R2 (fun z=>absurd z hm) fun _=>pm2.trans pm)
        rcases cases2 with⟨_,e2⟩|⟨_,e2⟩|⟨_,e2⟩
        ·refine go2 31 (by rw[e2,size_20]) (.inl (.inr (.inl rfl))) (by rw[e2,size_20];decide) (by omega)
        ·refine go2 127 (by rw[e2,size_76]) (.inl (.inr (.inr rfl))) (by rw[e2,size_76];decide) (by omega)
        ·refine go2 511 (by rw[e2,bx0]) (.inr rfl) (by rw[e2,bx0];decide) (by omega)
   ·    refine wp_if_neg (by simp[hf]) ?_
        refine wpAny_pure (hQ true h1 L1 es1 (ep+1) t2 sb ⟨⟨_,ho1,⟨hex.1,hex.2.1,hex.2.2⟩,rfl⟩,hin,q3,nd1,tup1,ld1,?_⟩ (fun z=>absurd z hm) fun _=>pm)
        have h:=hf
        unfold SetTable.tooFull at h
        rw[decide_eq_true_eq,q9,List.length_map]at h
        rw[hlen]
        omega
  by_cases hp1:t1.plain=true
  ·first
        |(refine wpAny_bind ?_;refine wp_if_pos hp1 ?_;refine a5R k _ 8 s hx1 hx2 _ _ _ fun b=> ?_)
        |refine wp_if_pos hp1 (wpAny_bind (a5R k _ 8 s hx1 hx2 _ _ _ fun b=> ?_))
   cases b
   ·    simp only[Bool.false_eq_true,if_false]
        exact go { t1 with plain:=false } (b6Z q3) q4 q5 q9
   ·    simp only[if_true]
        exact go t1 q3 q4 q5 q9
  ·first
        |(refine wpAny_bind ?_;refine wp_if_neg hp1 ?_;refine wpAny_pure ?_)
        |refine wp_if_neg hp1 (wpAny_bind (wpAny_pure ?_))
   simp only[if_true]
   exact go t1 q3 q4 q5 q9
end
def th2 (P:Program)(w:World):STh P w NestedKey where
 is:=NIs
 hash:=nh w
 cap:=306
 Rep:=fun h a L=> ∃es ep t,ai5 w h a L es ep t
 keep:=fun h k=>h.keep k
 pyHash:=fun {A E s k v Q} hu hk h=>pyHash_key k v A s Q hk.2.1 (by have:=hk.2.2;omega) (h _)
 raw:=fun {h a L} ⟨es,ep,t,R⟩=>by
    obtain⟨o,ho,hex,hd⟩:=R.ob
    exact⟨es,ep,t,⟨o,ho,hex,hd⟩,R.fits,by rw[R.size];have:=R.few;unfold scanBound;omega,R.tab.ris,R.led,by rw[R.rows];unfold ah0;rw[List.map_map];rfl⟩
 nd:=fun {h a L} ⟨es,ep,t,R⟩=>R.nd
 keepR:=fun {h h' a L} ⟨es,ep,t,R⟩ k hm=>by
    obtain⟨o,ho,r⟩:=R.ob
    exact⟨es,ep,t,⟨o,k o ho,r⟩,R.rows,R.tab,R.nd,hm,R.led,R.room⟩
 fresh:=fun {h a} ho=>⟨#[],0,_,{
    ob:=⟨_,ho,⟨rfl,rfl,rfl⟩,rfl⟩
    rows:=rfl
    tab:=⟨List.Pairwise.nil,rfl,rfl,.inl (.inl rfl),fun x hx=>(by cases hx),fun q hq=>(by cases hq)⟩
    nd:=List.nodup_nil
    mem:=fun p hp=>(by cases hp)
    led:=by
     show _∨(!w.params.followText "set-order")=true
     cases w.params.followText "set-order"
     ·exact .inr rfl
     ·exact .inl rfl
    room:=by show 0*5<7*3;decide }⟩
 add:=fun {A E s a L x k Q} hu ⟨es,ep,t,R⟩ hx room hQ=>b60 R hx hu room fun b h' L' es' ep' t' sb R' c1 c2=>hQ b h' L' sb ⟨es',ep',t',R'⟩ c1 c2
end Fz
namespace Fz
open PySem PySem.Spec PyProof.Rows
inductive R (α:Type) where
 |ok (a:α)|ex (c:Nat)|no
namespace R
def bind {α β:Type}:R α→(α→R β)→R β
 | .ok a,f=>f a
 | .ex c,_=> .ex c
 | .no,_=> .no
def calm {α:Type}:R α→R α
 | .ok a=> .ok a
 | .ex _=> .no
 | .no=> .no
@[simp] theorem ai6 {α β:Type} (a:α) (f:α→R β):(R.ok a).bind f=f a:=id rfl
@[simp] theorem c4A {α β:Type} (c:Nat) (f:α→R β):(R.ex c:R α).bind f= .ex c:=id rfl
@[simp] theorem a5S {α β:Type} (f:α→R β):(R.no:R α).bind f= .no:=id rfl
@[simp] theorem b61 {α:Type} (a:α):(R.ok a).calm= .ok a:=id rfl
@[simp] theorem c4F {α:Type} (c:Nat):(R.ex c:R α).calm= .no:=id rfl
@[simp] theorem c4J {α:Type}:(R.no:R α).calm= .no:=id rfl
end R
inductive U where
 |nt|neg|len|all|any|sum|int|tup|lst|sorted|sset|lset|min|max
 |isStr|isInt|isBool|isTup|ag4|rng|enm|rev|lrng|trng|denm|mint|itm|dprs|dprF|emp|lsts
 deriving DecidableEq
inductive B where
 |add|sub|mul|fdiv|mod|pow|eq|ne|lt|le|gt|ge|mem|nmem|iss|isn|ix
 |from|to|max2|min2|rng|zip|index|step|mint2|lrng2|cat
 deriving DecidableEq
inductive Tg where
 |one (i:Nat)|tup (is:List Nat)
 deriving DecidableEq
def Tg.slots:Tg→List Nat
 | .one i=>[i]
 | .tup is=>is
inductive Sv where
 |val (d:D)|own (xs:List D)|dct (kvs:List (D×D))|fnc (g:Nat)|plv (d:D)|sto (d:D)
abbrev Sd:=List (Option Sv)
def boolsOf:List D→Option (List Bool)
 | []=>some []
 | .bool b::r=>(boolsOf r).map (b:: ·)
 |_::_=>none
def intsOf:List D→Option (List Int)
 | []=>some []
 | .int b::r=>(intsOf r).map (b:: ·)
 |_::_=>none
mutual
def ltD:D→D→Bool
 | .bool a,.bool b=> !a&&b
 | .int i,.int j=>decide (i<j)
 | .str a,.str b=>decide (a.cps.toList<b.cps.toList)
 | .list xs,.list ys=>am1 xs ys
 | .tuple xs,.tuple ys=>am1 xs ys
 |_,_=>false
def am1:List D→List D→Bool
 | [],[]=>false
 | [],_::_=>true
 |_::_,[]=>false
 |x::xs,y::ys=>if PyData.eqv x y=true then am1 xs ys else ltD x y
end
def leD (a b:D):Bool:= !ltD b a
def aE2 (x:D):List D→List D
 | []=>[x]
 |y::r=>if leD x y=true then x::y::r else y::aE2 x r
def ae0:List D→List D
 | []=>[]
 |x::r=>aE2 x (ae0 r)
def a5T (xs:List D):Bool:=xs.all fun x=>xs.all fun y=>PySem.W.alike x y
def b62:D→Bool
 | .tuple (_::_)=>true
 |_=>false
def b63:D→Bool
 | .tuple _=>true
 |_=>false
def b64:D→Bool
 | .tuple _=>false
 | .none=>false
 |_=>true
def sortable (xs:List D):Bool:=a5T xs&&(xs.all b62||xs.all b64||(decide (xs.length≤1)&&xs.all b63))&&xs.all fun x=>decide (x.depth≤40)
def aE3 (xs:List D):R D:=if sortable xs=true then .ok (.list (ae0 xs))else .no
def firsts:List D→List D→List D
 |acc,[]=>acc
 |acc,x::r=>if acc.any (fun y=>PyData.eqv y x)then firsts acc r else firsts (acc++[x]) r
mutual
def keyOk:D→Bool
 | .none=>true
 | .bool _=>true
 | .int _=>true
 | .str _=>true
 | .tuple xs=>aq7 xs
 |_=>false
def aq7:List D→Bool
 | []=>true
 |x::r=>keyOk x&&aq7 r
end
mutual
def noD:D→Bool
 | .none=>true
 | .bool _=>true
 | .int _=>true
 | .str _=>true
 | .list xs=>ad7 xs
 | .tuple xs=>ad7 xs
 | .dict _=>false
def ad7:List D→Bool
 | []=>true
 |x::r=>noD x&&ad7 r
end
def ai7:D→Bool
 | .int _=>true
 | .str _=>true
 |_=>false
def ab8:D→Bool
 | .tuple xs=>aq7 xs&&decide ((PyData.tuple xs).depth≤8)
 |_=>false
def setOk (xs:List D):Bool:=(xs.all ai7&&decide (xs.length≤4000))||(xs.all ab8&&(decide (xs.length≤306)||decide ((firsts [] xs).length≤305)))
def am3 (kvs:List (D×D)):Bool:=kvs.all fun p=>ab8 p.1
def aJ3 (kvs:List (D×D)):Bool:=kvs.all fun p=>ai7 p.1
def ak5 (kvs:List (D×D))(k:D):Option D:=match kvs with
 | []=>none
 |p::r=>if PyData.eqv p.1 k=true then some p.2 else ak5 r k
def isI:List (D×D)→Bool
 |(.int _,_)::_=>true
 |(.str _,_)::_=>true
 |_=>false
def ag5 (kvs:List (D×D))(k:D):Bool:=kvs.any fun p=>PyData.eqv p.1 k
def ai9 (kvs:List (D×D))(k v:D):List (D×D):=if ag5 kvs k=true then kvs.map fun p=>if PyData.eqv p.1 k=true then(p.1,v)else p else kvs++[(k,v)]
def aR9 (kvs:List (D×D))(k:D):List (D×D):=kvs.filter fun p=> !PyData.eqv p.1 k
def ao4:List D→Option (List (D×D))
 | []=>some []
 | .tuple [k,v]::r=>if ab8 k=true then(ao4 r).map ((k,v):: ·)else none
 |_::_=>none
def aq8:List D→Option (List (D×D))
 | []=>some []
 | .tuple [k,v]::r=>if ai7 k=true then(aq8 r).map ((k,v):: ·)else none
 |_::_=>none
def aj0 (ps:List (D×D)):List (D×D):=ps.foldl (fun acc p=>ai9 acc p.1 p.2) []
mutual
def nk:D→NestedKey
 | .none=> .none
 | .bool b=> .num (if b=true then 1 else 0)
 | .int i=> .num i
 | .str x=> .text x
 | .tuple xs=> .tup (nks xs)
 |_=> .none
def nks:List D→List NestedKey
 | []=>[]
 |x::r=>nk x::nks r
end
def ao5:D→Option (List D)
 | .list xs=>some xs
 | .tuple xs=>some xs
 |_=>none
def itemsOf:D→Option (List D)
 | .list xs=>some xs
 | .tuple xs=>some xs
 | .str s=>some (s.cps.toList.map fun c=> .str ⟨#[c]⟩)
 | .dict kvs=>some (kvs.map (·.1))
 |_=>none
def ae2 (lo:Int)(n:Nat):List D:=(List.range n).map fun(i:Nat)=> .int (lo+i)
def am6 (xs:List D):List D:=(List.range xs.length).map fun(i:Nat)=> .tuple [.int i,xs.getD i .none]
def isNon:D→Bool
 | .none=>true
 |_=>false
def isStr:D→Bool
 | .str _=>true
 |_=>false
def isTup:D→Bool
 | .tuple _=>true
 |_=>false
def ag4:D→Bool
 | .list _=>true
 |_=>false
def isInt:D→Bool
 | .int _=>true
 | .bool _=>true
 |_=>false
def isBool:D→Bool
 | .bool _=>true
 |_=>false
def ofO {α:Type}:Option α→R α
 |some a=> .ok a
 |none=> .no
def bx5:List Int→Option Int
 | []=>none
 |x::r=>some (r.foldl min x)
def bx7:List Int→Option Int
 | []=>none
 |x::r=>some (r.foldl max x)
def aE6 (xs:List D):List (D×D):=(List.range xs.length).map fun(i:Nat)=>(.int i,xs.getD i .none)
def a5X:List D→Option D
 | []=>none
 |x::r=>some (r.foldl (fun m y=>if ltD y m=true then y else m) x)
def ax9 (xs:List D)(k:Nat):List D:=(List.replicate k xs).flatten
def o1:U→D→R D
 | .nt,.bool b=> .ok (.bool (!b))
 | .emp,.list xs=> .ok (.bool xs.isEmpty)
 | .emp,.tuple xs=> .ok (.bool xs.isEmpty)
 | .neg,.int i=> .ok (.int (-i))
 | .len,.list xs=> .ok (.int xs.length)
 | .len,.tuple xs=> .ok (.int xs.length)
 | .len,.str s=> .ok (.int s.length)
 | .all,.list xs=>(ofO (boolsOf xs)).bind fun bs=> .ok (.bool (bs.all id))
 | .any,.list xs=>(ofO (boolsOf xs)).bind fun bs=> .ok (.bool (bs.any id))
 | .sum,.list xs=>(ofO (intsOf xs)).bind fun ns=> .ok (.int ns.sum)
 | .min,.list xs=>(ofO (intsOf xs)).bind fun ns=>(ofO (bx5 ns)).bind fun m=> .ok (.int m)
 | .max,.list xs=>(ofO (intsOf xs)).bind fun ns=>(ofO (bx7 ns)).bind fun m=> .ok (.int m)
 | .lrng,.int n=>if 0≤n∧n≤1000 then .ok (.list (ae2 0 n.toNat))else .no
 | .trng,.int n=>if 0≤n∧n≤1000 then .ok (.tuple (ae2 0 n.toNat))else .no
 | .mint,.list xs=>if sortable xs=true then ofO (a5X xs)else .no
 | .dprs,.list ds=>(ofO (ao4 ds)).bind fun ps=> .ok (.dict (aj0 ps))
 | .dprs,.tuple ds=>(ofO (ao4 ds)).bind fun ps=> .ok (.dict (aj0 ps))
 | .dprF,.list ds=>(ofO (aq8 ds)).bind fun ps=> .ok (.dict (aj0 ps))
 | .dprF,.tuple ds=>(ofO (aq8 ds)).bind fun ps=> .ok (.dict (aj0 ps))
 | .itm,.dict kvs=>if isI kvs=false then .ok (.list (kvs.map fun p=> .tuple [p.1,p.2]))else .no
 | .denm,.tuple xs=>if xs.isEmpty=false then .ok (.dict (aE6 xs))else .no
 | .int,.int i=> .ok (.int i)
 | .tup,.list xs=> .ok (.tuple xs)
 | .tup,.tuple xs=> .ok (.tuple xs)
 | .tup,.str s=> .ok (.tuple (s.cps.toList.map fun c=> .str ⟨#[c]⟩))
 | .lst,.list xs=> .ok (.list xs)
 | .lst,.tuple xs=> .ok (.list xs)
 | .lsts,.str s=> .ok (.list (s.cps.toList.map fun c=> .str ⟨#[c]⟩))
 | .sorted,.list xs=>aE3 xs
 | .sorted,.tuple xs=>aE3 xs
 | .sorted,.dict kvs=>aE3 (kvs.map (·.1))
 | .sset,.list xs=>if setOk xs=true∧sortable xs=true then .ok (.list (ae0 (firsts [] xs)))else .no
 | .sset,.tuple xs=>if setOk xs=true∧sortable xs=true then .ok (.list (ae0 (firsts [] xs)))else .no
 | .lset,.list xs=>if setOk xs=true then .ok (.int (firsts [] xs).length)else .no
 | .isStr,.dict _=> .no
 | .isTup,.dict _=> .no
 | .ag4,.dict _=> .no
 | .isInt,.dict _=> .no
 | .isBool,.dict _=> .no
 | .isStr,d=> .ok (.bool (isStr d))
 | .isTup,d=> .ok (.bool (isTup d))
 | .ag4,d=> .ok (.bool (ag4 d))
 | .isInt,d=> .ok (.bool (isInt d))
 | .isBool,d=> .ok (.bool (isBool d))
 | .rng,.int n=>if -1000000≤n∧n≤1000000 then .ok (.list (ae2 0 n.toNat))else .no
 | .enm,.list xs=> .ok (.list (am6 xs))
 | .enm,.tuple xs=> .ok (.list (am6 xs))
 | .enm,.str z=> .ok (.list (am6 (z.cps.toList.map fun c=> .str ⟨#[c]⟩)))
 |_,_=> .no
def ac5 (a b:D):Bool:=decide (min a.depth b.depth≤60)&&(noD a&&noD b)
def zipItems:D→Option (List D)
 | .list xs=>some xs
 | .tuple xs=>some xs
 | .str s=>some (s.cps.toList.map fun c=> .str ⟨#[c]⟩)
 |_=>none
def ah2:List D→List D→List D
 |x::xs,y::ys=> .tuple [x,y]::ah2 xs ys
 |_,_=>[]
def zipD3:List D→List D→List D→List D
 |x::xs,y::ys,z::zs=> .tuple [x,y,z]::zipD3 xs ys zs
 |_,_,_=>[]
def cutD {α:Type}(xs:List α)(lo hi:Option Int):List α:=(xs.drop (HT.sIx xs.length 0 lo)).take (HT.sIx xs.length xs.length hi-HT.sIx xs.length 0 lo)
def txB (x:Str):Bool:=PyData.strOk x&&decide (x.length≤sizeLine)
def au5 (d:D)(lo hi:Option Int):R D:=match d with
 | .list xs=> .ok (.list (cutD xs lo hi))
 | .tuple xs=> .ok (.tuple (cutD xs lo hi))
 | .str z=>if txB (L2.cutS z lo hi)=true then .ok (.str (L2.cutS z lo hi))else .no
 |_=> .no
inductive TM where
 |join|split|part
 deriving DecidableEq
def TM.name:TM→Str
 | .join=>"join"
 | .split=>"split"
 | .part=>"partition"
def asS:D→R Str
 | .str s=> .ok s
 |_=> .no
def by0:List D→Option (List Str)
 | []=>some []
 | .str x::r=>(by0 r).map (x:: ·)
 |_::_=>none
def tmR:TM→Str→D→R D
 | .join,s,d=>(ofO ((ao5 d).bind by0)).bind fun xs=>if(xs.map (·.length)).sum+xs.length*s.length≤16777216∧txB (Txt.join s xs)=true then .ok (.str (Txt.join s xs))else .no
 | .split,s,.str p=>if(p.length==0)=false∧s.length+2≤sizeLine∧((Txt.split s p).all fun x=>txB x)=true∧(Txt.split s p).length≤sizeLine then .ok (.list ((Txt.split s p).map PyData.str))else .no
 | .part,s,.str p=>if(p.length==0)=false∧s.length≤sizeLine∧txB (Txt.partition s p).1=true∧txB (Txt.partition s p).2.1=true∧txB (Txt.partition s p).2.2=true then .ok (.tuple [.str (Txt.partition s p).1,.str (Txt.partition s p).2.1,.str (Txt.partition s p).2.2])else .no
 |_,_,_=> .no
def a5Y:List (D×D)→Str→Option D
 | [],_=>none
 |  (k,d)::r,x=>(match k with
    | .str y=>if y=x then some d else a5Y r x
    |_=>a5Y r x)
def tgR (kvs:List (D×D)):D→R D
 | .str x=> .ok ((a5Y kvs x).getD .none)
 |_=> .no
def rpR (y z:Str):D→R D
 | .str s=>if s.length+(s.length+1)*z.length≤16777216∧txB (Txt.replace s y z)=true then .ok (.str (Txt.replace s y z))else .no
 |_=> .no
def upR:D→R D
 | .str s=>if s.length≤5592405∧txB (Txt.upper s)=true then .ok (.str (Txt.upper s))else .no
 |_=> .no
def siR:D→R D
 | .int i=>if i.natAbs.log2<1920∧txB (toString i:String)=true then .ok (.str (toString i:String))else .no
 |_=> .no
def aS1 (a:Str)(n:Nat):Str:=⟨(List.replicate n a.cps).foldl (· ++ ·) #[]⟩
def memD (x:D)(xs:List D):Bool:=xs.any fun y=>PyData.eqv y x
def o2:B→D→D→R D
 | .add,.int i,.int j=> .ok (.int (i+j))
 | .add,.str a,.str b=>if a.length+b.length≤sizeLine then .ok (.str (a++b))else .no
 | .add,.tuple xs,.tuple ys=>if xs.length+ys.length≤sizeLine then .ok (.tuple (xs++ys))else .no
 | .add,.list xs,.list ys=>if xs.length+ys.length≤sizeLine then .ok (.list (xs++ys))else .no
 | .sub,.int i,.int j=> .ok (.int (i-j))
 | .mul,.int i,.int j=>if(i.natAbs<2^64∨j.natAbs<2^64)then .ok (.int (i*j))else .no
 | .mul,.str a,.int k=>if(2≤k∧k≤1000)∧(0<a.length∧a.length≤1000)∧txB (aS1 a k.toNat)=true then .ok (.str (aS1 a k.toNat))else .no
 | .mul,.list xs,.int k=>if 0≤k∧k≤1000∧xs.length≤1000 then .ok (.list (ax9 xs k.toNat))else .no
 | .mul,.tuple xs,.int k=>if(1≤k∧k≤1000)∧xs.length≤1000∧xs≠[]then .ok (.tuple (ax9 xs k.toNat))else .no
 | .fdiv,.int i,.int j=>if 0<j∧j<2^64 then .ok (.int (i/j))else .no
 | .mod,.int i,.int j=>if 0<j then .ok (.int (i%j))else .no
 | .pow,.int i,.int j=>if 0≤j∧j≤1000∧i.natAbs<2^64 then .ok (.int (i^j.toNat))else .no
 | .eq,.dict kvs,.dict []=> .ok (.bool kvs.isEmpty)
 | .ne,.dict kvs,.dict []=> .ok (.bool !kvs.isEmpty)
 | .eq,a,b=>if ac5 a b=true then .ok (.bool (PyData.eqv a b))else .no
 | .ne,a,b=>if ac5 a b=true then .ok (.bool (!PyData.eqv a b))else .no
 | .lt,.int i,.int j=> .ok (.bool (decide (i<j)))
 | .le,.int i,.int j=> .ok (.bool (decide (i≤j)))
 | .gt,.int i,.int j=> .ok (.bool (decide (j<i)))
 | .ge,.int i,.int j=> .ok (.bool (decide (j≤i)))
 | .lt,.str a,.str b=> .ok (.bool (decide (a.cps.toList<b.cps.toList)))
 | .lt,.tuple xs,.tuple ys=>if PySem.W.alike (.tuple xs) (.tuple ys)=true∧ac5 (.tuple xs) (.tuple ys)=true then .ok (.bool (ltD (.tuple xs) (.tuple ys)))else .no
 | .le,.tuple xs,.tuple ys=>if PySem.W.alike (.tuple xs) (.tuple ys)=true∧ac5 (.tuple xs) (.tuple ys)=true then .ok (.bool (!ltD (.tuple ys) (.tuple xs)))else .no
 | .mem,a,.dict kvs=>if ab8 a=true∧isI kvs=false then .ok (.bool (ag5 kvs a))else if ai7 a=true∧aJ3 kvs=true then .ok (.bool (ag5 kvs a))else .no
 | .nmem,a,.dict kvs=>if ab8 a=true∧isI kvs=false then .ok (.bool (!ag5 kvs a))else if ai7 a=true∧aJ3 kvs=true then .ok (.bool (!ag5 kvs a))else .no
 | .ix,.dict kvs,.int i=>if isI kvs=true then ofO (ak5 kvs (.int i))else .no
 | .ix,.dict kvs,.str x=>if isI kvs=true then ofO (ak5 kvs (.str x))else .no
 | .ix,.dict kvs,a=>if ab8 a=true∧isI kvs=false then ofO (ak5 kvs a)else .no
 | .mem,a,.list ys=>if ac5 a (.list ys)=true then .ok (.bool (memD a ys))else .no
 | .mem,a,.tuple ys=>if ac5 a (.tuple ys)=true then .ok (.bool (memD a ys))else .no
 | .nmem,a,.list ys=>if ac5 a (.list ys)=true then .ok (.bool (!memD a ys))else .no
 | .nmem,a,.tuple ys=>if ac5 a (.tuple ys)=true then .ok (.bool (!memD a ys))else .no
 | .mem,.str a,.str b=>if a.length=1 then .ok (.bool (decide (a.cps.getD 0 0∈b.cps.toList)))else .no
 | .iss,a,.none=> .ok (.bool (isNon a))
 | .isn,a,.none=> .ok (.bool (!isNon a))
 | .iss,.bool a,.bool b=> .ok (.bool (decide (a=b)))
 | .isn,.bool a,.bool b=> .ok (.bool (!decide (a=b)))
 | .ix,.list xs,.int i=>ofO (L2.atI xs i)
 | .ix,.tuple xs,.int i=>ofO (L2.atI xs i)
 | .ix,.str s,.int i=>(ofO (L2.atI s.cps.toList i)).bind fun c=> .ok (.str ⟨#[c]⟩)
 | .from,d,.int i=>au5 d (some i) none
 | .to,d,.int i=>au5 d none (some i)
 | .max2,.int i,.int j=> .ok (.int (if j>i then j else i))
 | .min2,.int i,.int j=> .ok (.int (if j<i then j else i))
 | .mint2,a,b=>if sortable [a,b]=true then .ok (if ltD b a=true then b else a)else .no
 | .cat,.list xs,.list ys=>if xs.length+ys.length≤sizeLine then .ok (.list (xs++ys))else .no
 | .lrng2,.int i,.int j=>if -1000≤i∧i≤1000∧ -1000≤j∧j≤1000 then .ok (.list (ae2 i (j-i).toNat))else .no
 | .rng,.int i,.int j=>if -1000000≤i∧i≤1000000∧ -1000000≤j∧j≤1000000 then .ok (.list (ae2 i (j-i).toNat))else .no
 | .zip,x,y=>(ofO (zipItems x)).bind fun xs=>(ofO (zipItems y)).bind fun ys=> .ok (.list (ah2 xs ys))
 | .step,.tuple xs,.int i=>if i= -1 then .ok (.tuple xs.reverse)else .no
 | .step,.list xs,.int i=>if i= -1 then .ok (.list xs.reverse)else .no
 |_,_,_=> .no
def a5Z:List Str→List D→D→R D
 |  k::ks,v::vs,d=>(match d with
    | .str x=>if x=k then .ok v else a5Z ks vs d
    |_=> .no)
 |_,_,_=> .no
def look (τ:Sd)(i:Nat):R D:=match τ[i]? with
 |some (some (.val d))=> .ok d
 |_=> .no
def peek (τ:Sd)(i:Nat):R D:=match τ[i]? with
 |some (some (.val d))=> .ok d
 |some (some (.own xs))=> .ok (.list xs)
 |some (some (.dct kvs))=> .ok (.dict kvs)
 |_=> .no
def ak7:Sd→List Nat→List D→Sd
 |τ,i::is,d::ds=>ak7 (τ.set i (some (.val d))) is ds
 |τ,_,_=>τ
def ae8:Tg→D→Sd→R Sd
 | .one i,d,τ=> .ok (τ.set i (some (.val d)))
 |  .tup is,d,τ=>(match ao5 d with
    |some ds=>if ds.length=is.length then .ok (ak7 τ is ds)else .no
    |none=> .no)
def an7 (τ:Sd):List Nat→Sd
 | []=>τ
 |v::vs=>(an7 τ vs).set v none
def ah3:Sd→List (Nat×Bool)→List D→R Sd
 |τ,[],[]=> .ok τ
 |τ,(i,false)::is,d::ds=>ah3 (τ.set i (some (.val d))) is ds
 |τ,(i,true)::is,.list xs::ds=>ah3 (τ.set i (some (.own xs))) is ds
 |τ,(i,true)::is,.dict kvs::ds=>ah3 (τ.set i (some (.dct kvs))) is ds
 |_,_,_=> .no
def turns (f:D→R (Option D)):List D→R (List D)
 | []=> .ok []
 |x::r=>(f x).bind fun o=>(turns f r).bind fun ys=> .ok (match o with|some y=>y::ys|none=>ys)
def asB:D→R Bool
 | .bool b=> .ok b
 |_=> .no
end Fz
namespace Fz
open PySem PySem.Spec PySem.W PyProof.Rows
mutual
theorem aS2: ∀(a b:D),alike a b=true→PyData.eqv a b=true→a=b
 | .none,b,h,e=>by cases b<;>first|rfl|simp[alike]at h
 | .bool x,b,h,e=>by
   cases b<;>first|(simp[alike]at h;done)|skip
   simp[PyData.eqv]at e;rw[e]
 | .int x,b,h,e=>by
   cases b<;>first|(simp[alike]at h;done)|skip
   simp[PyData.eqv]at e;rw[e]
 | .str x,b,h,e=>by
   cases b<;>first|(simp[alike]at h;done)|skip
   simp[PyData.eqv]at e;rw[e]
 | .list xs,b,h,e=>by
   cases b<;>first|(simp[alike]at h;done)|skip
   simp only[PyData.eqv]at e
   rw[a6c xs _ (by simpa[alike]using h) e]
 | .tuple xs,b,h,e=>by
   cases b<;>first|(simp[alike]at h;done)|skip
   simp only[PyData.eqv]at e
   rw[a6c xs _ (by simpa[alike]using h) e]
 | .dict _,b,h,e=>by cases b<;>simp[alike]at h
theorem a6c: ∀(xs ys:List D),alikeAll xs ys=true→PyData.eqvAll xs ys=true→xs=ys
 | [],ys,_,e=>by cases ys<;>first|rfl|simp[PyData.eqvAll]at e
 |x::xs,ys,h,e=>by
  cases ys with
  |nil=>simp[PyData.eqvAll]at e
  |cons y ys=>
   obtain⟨h1,h2⟩:=alike_all_cons h
   rw[PyData.eqvAll,Bool.and_eq_true]at e
   rw[aS2 x y h1 e.1,a6c xs ys h2 e.2]
end
mutual
theorem lt_data: ∀(a b:D),alike a b=true→ltD a b=dataLt a b
 | .none,b,h=>by cases b<;>first|(simp[alike]at h;done)|(simp[ltD];rfl)
 | .bool x,b,h=>by
   cases b<;>first|(simp[alike]at h;done)|skip
   rename_i y
   rw[dataLt_bool]
   cases x<;>cases y<;>rfl
 | .int x,b,h=>by
   cases b<;>first|(simp[alike]at h;done)|skip
   rw[dataLt_int];simp[ltD]
 | .str x,b,h=>by
   cases b<;>first|(simp[alike]at h;done)|skip
   rw[dataLt_str];simp[ltD]
 | .list xs,b,h=>by
   cases b<;>first|(simp[alike]at h;done)|skip
   rw[dataLt_list]
   simp only[ltD]
   exact a6d xs _ (by simpa[alike]using h)
 | .tuple xs,b,h=>by
   cases b<;>first|(simp[alike]at h;done)|skip
   rw[dataLt_tuple]
   simp only[ltD]
   exact a6d xs _ (by simpa[alike]using h)
 | .dict _,b,h=>by cases b<;>simp[alike]at h
theorem a6d: ∀(xs ys:List D),alikeAll xs ys=true→am1 xs ys=PyProof.Rows.lexLt itemOrd (keyToksAll xs) (keyToksAll ys)
 | [],[],_=>by simp only[am1,keyToksAll];rfl
 | [],y::ys,_=>by simp only[am1,keyToksAll];rfl
 |x::xs,[],_=>by simp only[am1,keyToksAll];rfl
 |x::xs,y::ys,h=>by
  obtain⟨h1,h2⟩:=alike_all_cons h
  simp only[am1]
  by_cases e:PyData.eqv x y=true
  ·rw[if_pos e,dataLt_all_yes h1 e]
   exact a6d xs ys h2
  ·rw[if_neg e,dataLt_all_no h1 (by simpa using e)]
   exact lt_data x y h1
end
mutual
theorem a1L: ∀(a b:D),alike a b=true→alike b a=true
 | .none,b,h=>by cases b<;>first|rfl|simp[alike]at h
 | .bool x,b,h=>by cases b<;>first|rfl|simp[alike]at h
 | .int x,b,h=>by cases b<;>first|rfl|simp[alike]at h
 | .str x,b,h=>by cases b<;>first|rfl|simp[alike]at h
 | .list xs,b,h=>by
   cases b<;>first|(simp[alike]at h;done)|skip
   simp only[alike]at h ⊢
   exact a6e xs _ h
 | .tuple xs,b,h=>by
   cases b<;>first|(simp[alike]at h;done)|skip
   simp only[alike]at h ⊢
   exact a6e xs _ h
 | .dict _,b,h=>by cases b<;>simp[alike]at h
theorem a6e: ∀(xs ys:List D),alikeAll xs ys=true→alikeAll ys xs=true
 | [],ys,_=>by cases ys<;>simp[alikeAll]
 |x::xs,ys,h=>by
  cases ys with
  |nil=>simp[alikeAll]
  |cons y ys=>
   obtain⟨h1,h2⟩:=alike_all_cons h
   simp[alikeAll,a1L x y h1,a6e xs ys h2]
end
theorem b68 {a b:D}(h:alike a b=true):PyData.eqv a b=PyData.eqv b a:=by
 cases e:PyData.eqv a b with
 |true=>have:=aS2 a b h e;subst this;exact e.symm
 |false=>
  cases e2:PyData.eqv b a with
  |false=>rfl
  |true=>have:=aS2 b a (a1L a b h) e2;subst this;rw[e]at e2;cases e2
mutual
theorem by5: ∀(a b:D),alike a b=true→ltD a b=false→ltD b a=false→a=b
 | .none,b,h,_,_=>by cases b<;>first|rfl|simp[alike]at h
 | .bool x,b,h,h1,h2=>by
   cases b<;>first|(simp[alike]at h;done)|skip
   rename_i y
   cases x<;>cases y<;>first|rfl|simp[ltD]at h1 h2
 | .int x,b,h,h1,h2=>by
   cases b<;>first|(simp[alike]at h;done)|skip
   rename_i y
   simp only[ltD,decide_eq_false_iff_not]at h1 h2
   have:x=y:=by omega
   rw[this]
 | .str x,b,h,h1,h2=>by
   cases b<;>first|(simp[alike]at h;done)|skip
   rename_i y
   simp only[ltD,decide_eq_false_iff_not]at h1 h2
   have:x.cps.toList=y.cps.toList:=List.le_antisymm h2 h1
   rw[str_of_cps this]
 | .list xs,b,h,h1,h2=>by
   cases b<;>first|(simp[alike]at h;done)|skip
   simp only[ltD]at h1 h2
   rw[a6f xs _ (by simpa[alike]using h) h1 h2]
 | .tuple xs,b,h,h1,h2=>by
   cases b<;>first|(simp[alike]at h;done)|skip
   simp only[ltD]at h1 h2
   rw[a6f xs _ (by simpa[alike]using h) h1 h2]
 | .dict _,b,h,_,_=>by cases b<;>simp[alike]at h
theorem a6f: ∀(xs ys:List D),alikeAll xs ys=true→am1 xs ys=false→am1 ys xs=false→xs=ys
 | [],[],_,_,_=>rfl
 | [],y::ys,_,h,_=>by simp[am1]at h
 |x::xs,[],_,_,h=>by simp[am1]at h
 |x::xs,y::ys,h,h1,h2=>by
  obtain⟨a1,a2⟩:=alike_all_cons h
  simp only[am1]at h1 h2
  rw[←b68 a1]at h2
  by_cases e:PyData.eqv x y=true
  ·rw[if_pos e]at h1 h2
   rw[aS2 x y a1 e,a6f xs ys a2 h1 h2]
  ·rw[if_neg e]at h1 h2
   have:=by5 x y a1 h1 h2
   subst this
   exact absurd (eqv_refl_alike x a1) e
end
abbrev leW:D→D→Bool:=dataLe false id
theorem b7b (a b:D):leW a b= !dataLt b a:=rfl
theorem a1M {a b:D}(h:alike a b=true):leD a b=leW a b:=by
 rw[b7b,leD,lt_data b a (a1L a b h)]
theorem a6h:TotalLe leW:=sortLe_total _ _ _
theorem b7d {a b:D}(h:alike a b=true)(h1:leD a b=true)(h2:leD b a=true):a=b:=by
 unfold leD at h1 h2
 exact by5 a b h (by simpa using h2) (by simpa using h1)
theorem a6i (x:D): ∀l:List D,(aE2 x l).Perm (x::l)
 | []=> .refl _
 |y::r=>by
  unfold aE2
  split
  ·exact .refl _
  ·exact((a6i x r).cons y).trans (.swap x y r)
theorem a1N: ∀l:List D,(ae0 l).Perm l
 | []=> .refl _
 |x::r=>(a6i x (ae0 r)).trans ((a1N r).cons x)
theorem by6 (l:List D):(ae0 l).length=l.length:=(a1N l).length_eq
theorem by9 {x:D}: ∀ {l:List D},(∀y∈l,alike x y=true)→l.Pairwise (fun a b=>leW a b=true)→(aE2 x l).Pairwise (fun a b=>leW a b=true)
 | [],_,_=>by simp[aE2]
 |y::r,ha,hs=>by
  obtain⟨h1,h2⟩:=List.pairwise_cons.mp hs
  have hxy:=ha y List.mem_cons_self
  unfold aE2
  split
  ·rename_i e
   rw[a1M hxy]at e
   refine List.pairwise_cons.mpr ⟨fun z hz=> ?_,hs⟩
   rcases List.mem_cons.mp hz with rfl|hz
   ·exact e
   ·exact a6h.trans _ _ _ e (h1 z hz)
  ·rename_i e
   rw[a1M hxy]at e
   have hyx:leW y x=true:=(a6h.total x y).elim (fun z=>absurd z e) id
   refine List.pairwise_cons.mpr ⟨fun z hz=> ?_,by9 (fun z hz=>ha z (List.mem_cons_of_mem _ hz)) h2⟩
   rcases List.mem_cons.mp ((a6i x r).mem_iff.mp hz)with rfl|hz
   ·exact hyx
   ·exact h1 z hz
theorem bz0: ∀ {l:List D},AllAlike l→(ae0 l).Pairwise (fun a b=>leW a b=true)
 | [],_=>by simp[ae0]
 |x::r,h=>by9 (fun y hy=>h x List.mem_cons_self y (List.mem_cons_of_mem _ ((a1N r).mem_iff.mp hy))) (bz0 fun a ha b hb=>h a (List.mem_cons_of_mem _ ha) b (List.mem_cons_of_mem _ hb))
theorem b7e {l m n:List D}(h:AllAlike l)(hm:m.Perm l)(hn:n.Perm l)(sm:m.Pairwise (fun a b=>leW a b=true))(sn:n.Pairwise (fun a b=>leW a b=true)):m=n:=by
 refine List.Perm.eq_of_pairwise (le:=fun a b=>leW a b=true) (fun a b ha hb h1 h2=> ?_) sm sn (hm.trans hn.symm)
 have al:=h a (hm.mem_iff.mp ha) b (hn.mem_iff.mp hb)
 exact b7d al (by rw[a1M al];exact h1) (by rw[a1M (a1L a b al)];exact h2)
theorem a1O {l m:List D}(h:AllAlike l)(hm:m.Perm l):m.mergeSort leW=ae0 l:=
 b7e h ((List.mergeSort_perm m leW).trans hm) (a1N l) (sort_pairwise a6h m) (bz0 h)
end Fz
namespace Fz
open PySem PySem.Spec L2
class aa0 where
 T:List (Addr×Str)
 P:Program
 w:World
 sc:Addr
abbrev Ex (H H':Hp):Prop:=LamX.ExtN H H'
structure Same [aa0](H H':Hp):Prop where
 ex:Ex H H'
 tab:LamX.Tabs aa0.T H→LamX.Tabs aa0.T H'
theorem Ex.refl (H:Hp):Ex H H:=LamX.ExtN.refl H
theorem Ex.trans {H H1 H2:Hp}(a:Ex H H1)(b:Ex H1 H2):Ex H H2:=LamX.ExtN.trans a b
theorem Ex.lst {H H':Hp}(e:Ex H H'){a:Addr}{vs:List V}(h:H a=some (.lst vs)):H' a=some (.lst vs):=e a _ h fun _ z=>by cases z
section
variable [aa0]
theorem Same.refl (H:Hp):Same H H:=⟨Ex.refl H,fun t=>t⟩
theorem Same.trans {H H1 H2:Hp}(a:Same H H1)(b:Same H1 H2):Same H H2:=⟨a.ex.trans b.ex,fun t=>b.tab (a.tab t)⟩
theorem Same.of {H H':Hp}(e:L2.Same H H'):Same H H':=⟨LamX.ExtN.of e,fun t=>t.ext e⟩
theorem Same.lst {H H':Hp}(e:Same H H'){a:Addr}{vs:List V}(h:H a=some (.lst vs)):H' a=some (.lst vs):=e.ex.lst h
instance coeSame {H H':Hp}:Coe (Same H H') (Ex H H'):=⟨Same.ex⟩
end
def Fr (H:Hp)(a:Addr):Prop:= ∀o,H a=some o→ ∃ps,o= .tbl ps
theorem Fr.of {H:Hp}{a:Addr}(h:H a=none):Fr H a:=fun o e=>by rw[h]at e;cases e
theorem Ex.free {H H':Hp}(e:Ex H H'){a:Addr}(h:Fr H' a):Fr H a:=fun o q=>by
 by_cases ht: ∃ps,o= .tbl ps
 ·exact ht
 ·exact h o (e a o q fun ps z=>ht ⟨ps,z⟩)
theorem Fr.lst {H:Hp}{a:Addr}{vs:List V}(h:Fr H a)(q:H a=some (.lst vs)):False:=by
 obtain⟨ps,z⟩:=h _ q
 cases z
def setAt (a:Addr)(o:Obj):HO:= .ext fun h=>h.get? a=some o
def aJ4 [aa0](o:Obj)(xs:List (NestedKey×Addr×Value)):Prop:=
 ∃es ep,o.ExactDict∧o.data= .dict es ep∧es.toList=xs.map (entryOfKey (nestedKind aa0.P aa0.w))∧(xs.map (·.1)).Nodup
theorem aJ4.data [aa0]{o:Obj}{xs:List (NestedKey×Addr×Value)}(h:aJ4 o xs): ∃es ep,o.data= .dict es ep:=let⟨es,ep,_,q,_⟩:=h;⟨es,ep,q⟩
def ak8 [aa0](o:Obj)(xs:List (Key×Value)):Prop:=o.IsDictOf (mixKind aa0.P aa0.w) xs
def kD:Key→D
 | .inl i=> .int i
 | .inr x=> .str x
def aE7 (o:Obj):Prop:= ∃es ep,o.data= .dict es ep
def a1Q (o:Obj):Prop:=aE7 o∨(∃vs n,o.data= .seq vs n)∨o.data= .plain
theorem aE7.hd {o:Obj}(h:aE7 o):a1Q o:= .inl h
theorem b7f {a c:Addr}{o:Obj}{q:Str}(hd:a1Q o):setAt a o≠LamX.CodeO c q∨a≠c:=by
 by_cases h:a=c
 ·subst h
  refine .inl fun e=> ?_
  have e':(fun h:Heap=>h.get? a=some o)=(fun h=> ∃(oc:Obj) (vs:Array Value) (t:Tok),h.get? a=some oc∧oc.data= .fields vs∧vs[1]? =some (.str q t)):=by
   injection e
  have h0:Heap.get? { objs:=Array.replicate (a+1) o } a=some o:=by
   unfold Heap.get?
   have:(Array.replicate (a+1) o)[a]? =some o:=by simp
   rw[this]
   obtain⟨c,d,dt,sl⟩:=o
   rcases hd with⟨es,ep,hd⟩|⟨vs,n,hd⟩|hd<;>(simp only at hd;subst hd;rfl)
  have h1:=(congrFun e' { objs:=Array.replicate (a+1) o }).mp h0
  obtain⟨oc,vs,t,g1,g2,_⟩:=h1
  rw[h0]at g1
  cases g1
  rcases hd with⟨es,ep,hd⟩|⟨vs,n,hd⟩|hd<;>(rw[hd]at g2;cases g2)
 ·exact .inr h
def SqP (K:Fr')(H:Hp)(a:Addr)(xs:List V):Prop:=
 (∃o:Obj,H a=some (.frz o (.tup xs))∧o.dict=none)∨
    ∃(o:Obj) (its:Array Value) (n:Nat),K.lookup a=some o∧o.cls= .type "tuple"∧o.dict=none∧o.data= .seq its n∧its.size≤sizeLine∧Vals xs its.toList
theorem SqP.t {K:Fr'}{H:Hp}{a:Addr}{xs:List V}(h:SqP K H a xs):SqT K H a xs:=by
 rcases h with⟨o,h,_⟩|⟨o,its,n,h1,h2,_,h3⟩
 ·exact .inl (.inr ⟨o,h⟩)
 ·exact .inr ⟨o,its,n,h1,h2,h3⟩
instance coeSqP {K:Fr'} {H:Hp} {a:Addr} {xs:List V}:Coe (SqP K H a xs) (SqT K H a xs):=⟨SqP.t⟩
theorem SqP.of {K:Fr'}{H:Hp}{a:Addr}{o:Obj}{xs:List V}(h:H a=some (.frz o (.tup xs)))(d:o.dict=none):SqP K H a xs:= .inl ⟨o,h,d⟩
section
variable [aa0]
mutual
inductive Rp (K:Fr')(H:Hp):V→D→Prop
 |non:Rp K H .non .none
 |bl (b:Bool):Rp K H (.bl b) (.bool b)
 |int (i:Int):Rp K H (.int i) (.int i)
 |str (x:Str) (ok:PyData.strOk x=true) (sz:x.length≤sizeLine):Rp K H (.str x) (.str x)
 |lst {a:Addr} {vs:List V} {ds:List D} (q:SqL K H a vs) (r:aa1 K H vs ds) (sz:ds.length≤sizeLine):Rp K H (.ref a) (.list ds)
 |tup {a:Addr} {vs:List V} {ds:List D} (q:SqP K H a vs) (r:aa1 K H vs ds) (sz:ds.length≤sizeLine):Rp K H (.ref a) (.tuple ds)
 |dct {a:Addr} {o:Obj} {xs:List (NestedKey×Addr×Value)} {vs:List V} {kvs:List (D×D)} (q:H a=some (setAt a o)) (ns:(a==sysModules)=false) (raw:aJ4 o xs) (ke:xs.map (·.1)=kvs.map fun p=>nk p.1) (kd:am3 kvs=true)
  (rk:aa1 K H (xs.map fun x=>V.ref x.2.1) (kvs.map (·.1))) (hv:Vals vs (xs.map (·.2.2))) (rv:aa1 K H vs (kvs.map (·.2))) (sz:kvs.length≤sizeLine):Rp K H (.ref a) (.dict kvs)
 |dcti {a:Addr} {o:Obj} {xs:List (Key×Value)} {vs:List V} {kvs:List (D×D)} (q:H a=some (setAt a o)) (ns:(a==sysModules)=false) (raw:ak8 o xs) (ke:xs.map (fun x=>kD x.1)=kvs.map (·.1)) (ne:xs≠[])
  (rk:aa1 K H (xs.map fun x=>kV x.1) (kvs.map (·.1))) (hv:Vals vs (xs.map (·.2))) (rv:aa1 K H vs (kvs.map (·.2))) (sz:kvs.length≤sizeLine):Rp K H (.ref a) (.dict kvs)
inductive aa1 (K:Fr')(H:Hp):List V→List D→Prop
 |nil:aa1 K H [] []
 |cons {v:V} {vs:List V} {d:D} {ds:List D}:Rp K H v d→aa1 K H vs ds→aa1 K H (v::vs) (d::ds)
end
end
section
variable [aa0] {K:Fr'} {H H':Hp}
theorem bz4 {a:Addr}{o:HO}(e:Ex H H')(hn: ∀ps,o≠ .tbl ps)(h:Rd H a o):Rd H' a o:=by
 rcases h with h|⟨ob,h⟩
 ·exact .inl (e _ _ h hn)
 ·exact .inr ⟨ob,e _ _ h fun _ z=>by cases z⟩
theorem aE9 {a:Addr}{xs:List V}(e:Ex H H')(h:SqL K H a xs):SqL K H' a xs:=h.imp (bz4 e fun _ z=>by cases z) id
theorem af0 {a:Addr}{xs:List V}(e:Ex H H')(h:SqT K H a xs):SqT K H' a xs:=h.imp (bz4 e fun _ z=>by cases z) id
theorem a1T {a:Addr}{xs:List V}(e:Ex H H')(h:SqP K H a xs):SqP K H' a xs:=by
 rcases h with⟨o,h,d⟩|h
 ·exact .inl ⟨o,e _ _ h (fun _ z=>by cases z),d⟩
 ·exact .inr h
mutual
theorem Rp.mono (e:Ex H H'): ∀ {v:V} {d:D},Rp K H v d→Rp K H' v d
 |_,_,.non=> .non
 |_,_,.bl b=> .bl b
 |_,_,.int i=> .int i
 |_,_,.str x a b=> .str x a b
 |_,_,.lst q r z=> .lst (aE9 e q) (aa1.mono e r) z
 |_,_,.tup q r z=> .tup (a1T e q) (aa1.mono e r) z
 |_,_,.dct q ns raw ke kd rk hv rv sz=> .dct (e _ _ q fun _ z=>by cases z) ns raw ke kd (aa1.mono e rk) hv (aa1.mono e rv) sz
 |_,_,.dcti q ns raw ke ne rk hv rv sz=> .dcti (e _ _ q fun _ z=>by cases z) ns raw ke ne (aa1.mono e rk) hv (aa1.mono e rv) sz
theorem aa1.mono (e:Ex H H'): ∀ {vs:List V} {ds:List D},aa1 K H vs ds→aa1 K H' vs ds
 |_,_,.nil=> .nil
 |_,_,.cons a b=> .cons (Rp.mono e a) (aa1.mono e b)
end
mutual
theorem Rp.dp: ∀ {v:V} {d:D},Rp K H v d→noD d=true→Dp K H v d
 |_,_,.non,_=> .non
 |_,_,.bl b,_=> .bl b
 |_,_,.int i,_=> .int i
 |_,_,.str x _ _,_=> .str x
 |_,_,.lst q r _,h=> .lst q (aa1.dp r (by simpa[noD]using h))
 |_,_,.tup q r _,h=> .tup q.t (aa1.dp r (by simpa[noD]using h))
 |_,_,.dct ..,h=>by simp[noD]at h
 |_,_,.dcti ..,h=>by simp[noD]at h
theorem aa1.dp: ∀ {vs:List V} {ds:List D},aa1 K H vs ds→ad7 ds=true→DpAll K H vs ds
 |_,_,.nil,_=> .nil
 |_,_,.cons a b,h=>by
  simp only[ad7,Bool.and_eq_true]at h
  exact .cons (Rp.dp a h.1) (aa1.dp b h.2)
end
mutual
theorem Rp.lay: ∀ {v:V} {d:D},Rp K H v d→noD d=true→d.canLay0=true
 |_,_,.non,_=>rfl
 |_,_,.bl b,_=>rfl
 |_,_,.int i,_=>rfl
 |_,_,.str x a _,_=>by simpa[PyData.canLay0]using a
 |_,_,.lst q r _,h=>by simpa[PyData.canLay0]using aa1.lay r (by simpa[noD]using h)
 |_,_,.tup q r _,h=>by simpa[PyData.canLay0]using aa1.lay r (by simpa[noD]using h)
 |_,_,.dct ..,h=>by simp[noD]at h
 |_,_,.dcti ..,h=>by simp[noD]at h
theorem aa1.lay: ∀ {vs:List V} {ds:List D},aa1 K H vs ds→ad7 ds=true→PyData.canLayAll0 ds=true
 |_,_,.nil,_=>rfl
 |_,_,.cons a b,h=>by
  simp only[ad7,Bool.and_eq_true]at h
  simp[PyData.canLayAll0,Rp.lay a h.1,aa1.lay b h.2]
end
theorem aa1.length: ∀ {vs:List V} {ds:List D},aa1 K H vs ds→vs.length=ds.length
 |_,_,.nil=>rfl
 |_,_,.cons _ b=>by simp[aa1.length b]
theorem aa1.append: ∀ {vs ws:List V} {ds es:List D},aa1 K H vs ds→aa1 K H ws es→aa1 K H (vs++ws) (ds++es)
 |_,_,_,_,.nil,s=>s
 |_,_,_,_,.cons a b,s=> .cons a (aa1.append b s)
theorem aa1.get: ∀ {vs:List V} {ds:List D} {i:Nat} {d:D},aa1 K H vs ds→ds[i]? =some d→ ∃v,vs[i]? =some v∧Rp K H v d
 |_,_,_,_,.nil,e=>by simp at e
 |_,_,0,_,.cons r _,e=>by simp at e;subst e;exact⟨_,rfl,r⟩
 |_,_,i+1,d,.cons _ t,e=>by
  obtain⟨u,h1,h2⟩:=aa1.get (i:=i) (d:=d) t (by simpa using e)
  exact⟨u,by simpa using h1,h2⟩
theorem aa1.aJ6: ∀ {vs:List V} {ds:List D} {i:Nat} {v:V},aa1 K H vs ds→vs[i]? =some v→ ∃d,ds[i]? =some d∧Rp K H v d
 |_,_,_,_,.nil,e=>by simp at e
 |_,_,0,_,.cons r _,e=>by simp at e;subst e;exact⟨_,rfl,r⟩
 |_,_,i+1,d,.cons _ t,e=>by
  obtain⟨u,h1,h2⟩:=aa1.aJ6 (i:=i) (v:=d) t (by simpa using e)
  exact⟨u,by simpa using h1,h2⟩
theorem aa1.take: ∀ {vs:List V} {ds:List D} (n:Nat),aa1 K H vs ds→aa1 K H (vs.take n) (ds.take n)
 |_,_,0,_=> .nil
 |_,_,_+1,.nil=> .nil
 |_,_,n+1,.cons r t=> .cons r (aa1.take n t)
theorem aa1.drop: ∀ {vs:List V} {ds:List D} (n:Nat),aa1 K H vs ds→aa1 K H (vs.drop n) (ds.drop n)
 |_,_,0,r=>r
 |_,_,_+1,.nil=> .nil
 |_,_,n+1,.cons _ t=>aa1.drop n t
theorem aa1.mem: ∀ {vs:List V} {ds:List D} {d:D},aa1 K H vs ds→d∈ds→ ∃v,v∈vs∧Rp K H v d
 |_,_,_,.nil,e=>by cases e
 |_,_,d,.cons r t,e=>by
  rcases List.mem_cons.mp e with h|h
  ·subst h;exact⟨_,List.mem_cons_self,r⟩
  ·obtain⟨v,h1,h2⟩:=aa1.mem t h
   exact⟨v,List.mem_cons_of_mem _ h1,h2⟩
theorem Rp.aq9 {v:V}{b:Bool}(h:Rp K H v (.bool b)):v= .bl b:=by cases h;rfl
theorem Rp.a6k {v:V}{i:Int}(h:Rp K H v (.int i)):v= .int i:=by cases h;rfl
theorem Rp.a1V {v:V}{x:Str}(h:Rp K H v (.str x)):v= .str x∧PyData.strOk x=true∧x.length≤sizeLine:=by
 cases h with
 |str x a b=>exact⟨rfl,a,b⟩
theorem Rp.none_of {v:V}(h:Rp K H v .none):v= .non:=by cases h;rfl
end
open Classical in
noncomputable def hide (H:Hp)(O:List Addr):Hp:=fun b=>if b∈O then none else H b
open Classical in
noncomputable def ao7 (H:Hp)(O:List Addr)(H2:Hp):Hp:=fun b=>if b∈O then H b else H2 b
theorem am9 {H:Hp}{O:List Addr}{b:Addr}(h:b∈O):hide H O b=none:=if_pos h
theorem ac1 {H:Hp}{O:List Addr}{b:Addr}(h:b∉O):hide H O b=H b:=if_neg h
theorem bz5 {H H2:Hp}{O:List Addr}{b:Addr}(h:b∈O):ao7 H O H2 b=H b:=if_pos h
theorem an0 {H H2:Hp}{O:List Addr}{b:Addr}(h:b∉O):ao7 H O H2 b=H2 b:=if_neg h
theorem an8 {H:Hp}:hide H []=H:=by funext b;exact ac1 (by simp)
theorem au6 {H:Hp}{O:List Addr}{b:Addr}{o:HO}(h:hide H O b=some o):b∉O∧H b=some o:=by
 by_cases hb:b∈O
 ·rw[am9 hb]at h;cases h
 ·exact⟨hb,by rw[ac1 hb]at h;exact h⟩
theorem ay2 [aa0]{H:Hp}{O:List Addr}:Same (hide H O) H:= .of fun b o h=>(au6 h).2
theorem aa9 {H:Hp}{O:List Addr}:Ex (hide H O) H:= .of fun b o h=>(au6 h).2
theorem Ex.hide {H H':Hp}{O:List Addr}(e:Ex H H'):Ex (Fz.hide H O) (Fz.hide H' O):=fun b o h n=>by
 obtain⟨h1,h2⟩:=au6 h
 rw[ac1 h1];exact e b o h2 n
theorem Same.hide [aa0]{H H':Hp}{O:List Addr}(e:Same H H'):Ex (Fz.hide H O) (Fz.hide H' O):=e.ex.hide
theorem ah4 [aa0]{H:Hp}{O O':List Addr}(h: ∀a∈O',a∈O):Same (hide H O) (hide H O'):= .of fun b o e=>by
 obtain⟨h1,h2⟩:=au6 e
 rw[ac1 fun z=>h1 (h b z)];exact h2
theorem ab2 [aa0]{H:Hp}{p:Addr}{o:HO}(h:H p=none):Same H (upd H p o):= .of fun b u e=>by
 rw[upd_ne];exact e
 intro z;subst z;rw[h]at e;cases e
theorem aF1 {H:Hp}{O:List Addr}{b:Addr}(h:H b=none):hide H O b=none:=by
 by_cases hb:b∈O
 ·exact am9 hb
 ·rw[ac1 hb];exact h
theorem ay3 {H:Hp}{O:List Addr}{b:Addr}{o:HO}(h:b∈O):hide (upd H b o) O=hide H O:=by
 funext c
 by_cases hc:c∈O
 ·rw[am9 hc,am9 hc]
 ·rw[ac1 hc,ac1 hc,upd_ne]
  intro z;subst z;exact hc h
def Hid (a:Addr)(u:HO):Prop:=(∃vs,u= .lst vs)∨ ∃o,u=setAt a o∧a1Q o
theorem Hid.tbl {a:Addr}{ps:Array Value}(h:Hid a (.tbl ps)):False:=by
 rcases h with⟨vs,h⟩|⟨o,h,_⟩ <;>cases h
theorem Hid.tup {a:Addr}{ps:List V}(h:Hid a (.tup ps)):False:=by
 rcases h with⟨vs,h⟩|⟨o,h,_⟩ <;>cases h
theorem Hid.frz {a:Addr}{o:Obj}{u:HO}(h:Hid a (.frz o u)):False:=by
 rcases h with⟨vs,h⟩|⟨o,h,_⟩ <;>cases h
theorem Hid.own {a b:Addr}(h:Hid a (.own b)):False:=by
 rcases h with⟨vs,h⟩|⟨o,h,_⟩ <;>cases h
theorem Hid.code {a:Addr}{q:Str}(h:Hid a (LamX.CodeO a q)):False:=by
 rcases h with⟨vs,h⟩|⟨o,h,d⟩
 ·unfold LamX.CodeO at h;cases h
 ·exact(b7f (c:=a) (q:=q) d).elim (fun z=>z h.symm) fun z=>z rfl
def ab3 (H:Hp)(O:List Addr):Prop:= ∀a∈O,∃u,H a=some u∧Hid a u
theorem Ex.hid {H H':Hp}(e:Ex H H'){a:Addr}{u:HO}(h:H a=some u)(d:Hid a u):H' a=some u:=e a _ h fun _ z=>by subst z;exact d.tbl
theorem ab3.mono {H H':Hp}{O:List Addr}(h:ab3 H O)(e:Ex H H'):ab3 H' O:=fun a ha=>let⟨u,q,d⟩:=h a ha;⟨u,e.hid q d,d⟩
theorem ab3.not {H:Hp}{O:List Addr}(L:ab3 H O){b:Addr}{u:HO}(e:H b=some u)(n: ¬Hid b u):b∉O:=fun z=>by
 obtain⟨v,q,d⟩:=L b z
 rw[e]at q
 cases q
 exact n d
theorem Fr.hid {H:Hp}{a:Addr}{u:HO}(h:Fr H a)(q:H a=some u)(d:Hid a u):False:=by
 obtain⟨ps,z⟩:=h _ q
 subst z
 exact d.tbl
theorem au7 {T:List (Addr×Str)}{H:Hp}{O:List Addr}(L:ab3 H O)(t:LamX.Tabs T H):LamX.Tabs T (hide H O):=fun p hp=>by
 obtain⟨ps,h1,h2,h3⟩:=t p hp
 refine⟨ps,by rw[ac1 (L.not h1 Hid.tbl)];exact h1,h2,fun pos cv hc=> ?_⟩
 obtain⟨c,e1,e2⟩:=h3 pos cv hc
 exact⟨c,e1,by rw[ac1 (L.not e2 Hid.code)];exact e2⟩
theorem Same.ag6 [aa0]{H H':Hp}{O:List Addr}(e:Same H H')(L:ab3 H O):Same (Fz.hide H O) (Fz.hide H' O):=
 ⟨e.hide,fun t=>au7 (L.mono e.ex) (e.tab (ay2.tab t))⟩
noncomputable def a1W (O:List Addr)(h:Heap):List (Addr×Obj):=O.filterMap fun a=>(h.get? a).map fun o=>(a,o)
theorem b7h {O:List Addr}{h:Heap}{a:Addr}{o:Obj}(ha:a∈O)(e:h.get? a=some o):(a,o)∈a1W O h:=
 List.mem_filterMap.mpr ⟨a,ha,by rw[e];rfl⟩
theorem b7j {O:List Addr}{h:Heap}{p:Addr×Obj}(hp:p∈a1W O h):p.1∈O∧h.get? p.1=some p.2:=by
 obtain⟨a,ha,e⟩:=List.mem_filterMap.mp hp
 cases q:h.get? a with
 |none=>rw[q]at e;cases e
 |some o=>rw[q]at e;cases e;exact⟨ha,q⟩
section
variable {X:Cx} {pins:List (Addr×Obj)} {σ:St} {H H2:Hp} {s s2:Shared} {O:List Addr}
theorem Inv.b7k (I:Inv X pins σ H s): ∀b∈X.fs,H b=none:=fun b hb=>by
 obtain⟨_,o,ho,_⟩:=I.ok.funs.mem hb
 exact I.base.free b o ho (I.ok.frf b hb) fun z=>I.ok.exfs b z hb
theorem bz7 {P:Program}{w:World}{H:Hp}{h:Heap}{a:Addr}{u:HO}(d:Hid a u)(x:ObjOk P w H h a u): ∃o,h.get? a=some o∧a1Q o:=by
 rcases d with⟨vs,rfl⟩|⟨o,rfl,d⟩
 ·obtain⟨_,its,n,_,g⟩:=x
  exact⟨_,g,.inr (.inl ⟨_,_,rfl⟩)⟩
 ·exact⟨o,x.1,d⟩
theorem Inv.hide (I:Inv X pins σ H s)(L:ab3 H O):Inv X (pins++a1W O s.heap) σ (Fz.hide H O) s:=by
 refine⟨I.ok,I.os,I.bare,⟨I.base.keep,I.base.slot,fun b o q n hx=>aF1 (I.base.free b o q n hx),I.base.there,fun b xs q=> ?_,fun b o u q=> ?_,fun b ps q=> ?_⟩,I.loc,I.cell,aF1 I.free,fun x c h=>aF1 (I.freeC x c h),fun p hp=> ?_,fun a o e=> ?_,I.len⟩
 ·have z:=I.base.tups b xs q
  rw[ac1 (L.not z Hid.tup)];exact z
 ·have z:=I.base.frzs b o u q
  rw[ac1 (L.not z Hid.frz)];exact z
 ·obtain⟨m,z⟩:=I.base.tbls b ps q
  exact⟨m,by rw[ac1 (L.not z Hid.tbl)];exact z⟩
 ·rw[←List.append_assoc]at hp
  rcases List.mem_append.mp hp with hp|hp
  ·obtain⟨h1,h2,h3⟩:=I.pin p hp
   exact⟨h1,aF1 h2,h3⟩
  ·obtain⟨h1,h2⟩:=b7j hp
   obtain⟨u,hv,hd⟩:=L _ h1
   obtain⟨ob,g,hdat⟩:=bz7 hd (I.hok _ _ hv)
   refine⟨h2,am9 h1,fun z=> ?_,fun z=> ?_,fun v=> ?_⟩
   ·rw[z,I.free]at hv;cases hv
   ·rw[Inv.b7k I _ z]at hv;cases hv
   ·    rw[h2]at g
        cases g
        intro z
        rcases hdat with⟨_,_,q⟩|⟨_,_,q⟩|q<;>(rw[z]at q;cases q)
 ·obtain⟨h1,h2⟩:=au6 e
  exact(I.hok a o h2).stay (fun b u _ q=>q) (fun b q=>by rw[ac1 (L.not q Hid.own)];exact q) (fun b xs q=>by rw[ac1 (L.not q Hid.tup)];exact q)
theorem Inv.ao7 (I:Inv X pins σ H s)(L:ab3 H O)(J:Inv X (pins++a1W O s.heap) σ H2 s2):Inv X pins σ (Fz.ao7 H O H2) s2∧ ∀a∈O,H2 a=none:=by
 have hobj: ∀a∈O,∃o,s.heap.get? a=some o:=fun a ha=>by
  obtain⟨u,hv,hd⟩:=L a ha
  obtain⟨o,g,_⟩:=bz7 hd (I.hok _ _ hv)
  exact⟨o,g⟩
 have hp: ∀a∈O,∃o,s.heap.get? a=some o∧s2.heap.get? a=some o∧H2 a=none:=fun a ha=>by
  obtain⟨o,g⟩:=hobj a ha
  obtain⟨h1,h2,_⟩:=J.pin (a,o) (by rw[←List.append_assoc];exact List.mem_append_right _ (b7h ha g))
  exact⟨o,g,h1,h2⟩
 have no: ∀ {b:Addr} {o:HO},H2 b=some o→b∉O:=fun {b o} e z=>by
  obtain⟨_,_,_,h⟩:=hp b z
  rw[e]at h;cases h
 refine⟨⟨J.ok,J.os,J.bare,⟨J.base.keep,J.base.slot,fun b o q n hx=> ?_,J.base.there,fun b xs q=> ?_,fun b o u q=> ?_,fun b ps q=> ?_⟩,J.loc,J.cell,?_,fun x c h=> ?_,fun p hp'=> ?_,fun a o e=> ?_,J.len⟩,fun a ha=>(hp a ha).choose_spec.2.2⟩
 ·by_cases hb:b∈O
  ·obtain⟨u,hv,_⟩:=L b hb
   rw[I.base.free b o q n hx]at hv;cases hv
  ·rw[an0 hb];exact J.base.free b o q n hx
 ·have z:=J.base.tups b xs q
  rw[an0 (no z)];exact z
 ·have z:=J.base.frzs b o u q
  rw[an0 (no z)];exact z
 ·obtain⟨m,z⟩:=J.base.tbls b ps q
  exact⟨m,by rw[an0 (no z)];exact z⟩
 ·by_cases hb:X.env.locals∈O
  ·obtain⟨u,hv,_⟩:=L _ hb
   rw[I.free]at hv;cases hv
  ·rw[an0 hb];exact J.free
 ·by_cases hb:c∈O
  ·obtain⟨u,hv,_⟩:=L _ hb
   rw[I.freeC x c h]at hv;cases hv
  ·rw[an0 hb];exact J.freeC x c h
 ·obtain⟨h1,h2,h3⟩:=J.pin p (by rw[←List.append_assoc];exact List.mem_append_left _ hp')
  refine⟨h1,?_,h3⟩
  by_cases hb:p.1∈O
  ·obtain⟨u,hv,_⟩:=L _ hb
   rw[(I.pin p hp').2.1]at hv;cases hv
  ·rw[an0 hb];exact h2
 ·by_cases ha:a∈O
  ·rw[bz5 ha]at e
   obtain⟨u,hv,hd⟩:=L a ha
   rw[e]at hv
   cases hv
   obtain⟨ob,g1,g2,_⟩:=hp a ha
   rcases hd with⟨vs,rfl⟩|⟨od,rfl,hd⟩
   ·    obtain⟨z,its,n,r,g⟩:=(show ObjOk X.prog X.w H s.heap a (.lst vs)from I.hok _ _ e)
        rw[g1]at g
        exact⟨z,its,n,r,by rw[g2];exact g⟩
   ·    have x:ObjOk X.prog X.w H s.heap a (setAt a od):=I.hok _ _ e
        have g:s.heap.get? a=some od:=x.1
        rw[g1]at g
        cases g
        exact⟨g2,⟨_,g2⟩,x.2.2⟩
  ·rw[an0 ha]at e
   exact(J.hok a o e).stay (fun b u _ q=>q) (fun b q=>by rw[an0 (no q)];exact q) (fun b xs q=>by rw[an0 (no q)];exact q)
end
theorem a1Z {T:List (Addr×Str)}{H:Hp}{a:Addr}{o0 o1:HO}(q:H a=some o0)(d:Hid a o0)(t:LamX.Tabs T H):LamX.Tabs T (upd H a o1):=fun p hp=>by
 obtain⟨ps,h1,h2,h3⟩:=t p hp
 have no: ∀ {b:Addr} {o:HO},H b=some o→ ¬Hid b o→b≠a:=fun {b o} e n z=>by
  subst z
  rw[q]at e
  cases e
  exact n d
 refine⟨ps,by rw[upd_ne (no h1 Hid.tbl)];exact h1,h2,fun pos cv hc=> ?_⟩
 obtain⟨c,e1,e2⟩:=h3 pos cv hc
 exact⟨c,e1,by rw[upd_ne (no e2 Hid.code)];exact e2⟩
theorem bz8 [aa0]{H H':Hp}{a:Addr}{o0 o1:HO}(e:Same H H')(h:Fr H a)(q:H' a=some o0)(d:Hid a o0):Same H (upd H' a o1):=by
 refine⟨fun b o g n=> ?_,fun t=>a1Z q d (e.tab t)⟩
 rw[upd_ne fun z=> ?_]
 ·exact e.ex b o g n
 ·subst z
  obtain⟨ps,w⟩:=h o g
  exact n ps w
theorem aF2 [aa0]{H H':Hp}{a:Addr}{vs ws:List V}(e:Same H H')(h:Fr H a)(q:H' a=some (.lst vs)):Same H (upd H' a (.lst ws)):=
 bz8 e h q (.inl ⟨_,rfl⟩)
theorem aS3 {H H2:Hp}{O:List Addr}(h: ∀a∈O,H2 a=none):hide (ao7 H O H2) O=H2:=by
 funext b
 by_cases hb:b∈O
 ·rw[am9 hb,h b hb]
 ·rw[ac1 hb,an0 hb]
theorem aS5 [aa0]{H H2:Hp}{O:List Addr}(L:ab3 H O)(hn: ∀a∈O,H2 a=none)(e:Same (hide H O) H2):Same H (ao7 H O H2):=by
 refine⟨fun b o h n=> ?_,fun t=> ?_⟩
 ·by_cases hb:b∈O
  ·rw[bz5 hb];exact h
  ·rw[an0 hb];exact e.ex b o (by rw[ac1 hb];exact h) n
 ·refine(e.tab (au7 L t)).ext fun b o q=> ?_
  rw[an0 fun z=> ?_]
  ·exact q
  ·rw[hn b z]at q;cases q
def Sv.owned:Sv→Bool
 | .val _=>false
 | .fnc _=>false
 | .plv _=>false
 | .sto _=>false
 |_=>true
class FnT where
 fa:Nat→Addr
 ok:Nat→Hp→Prop
 mono: ∀(g:Nat) (H H':Hp),Ex H H'→ok g H→ok g H'
 sa:Addr→Prop
def noFn:FnT:=⟨fun _=>0,fun _ _=>False,fun _ _ _ _ h=>h,fun _=>True⟩
def aj2 [aa0](K:Fr')(O:List Addr)(H:Hp)(a:Addr)(kvs:List (D×D)):Prop:=
 a  ∈O∧ ∃o xs vs,H a=some (setAt a o)∧(a==sysModules)=false∧aJ4 o xs∧xs.map (·.1)=kvs.map (fun p=>nk p.1)∧am3 kvs=true∧
    aa1 K (hide H O) (xs.map fun x=>V.ref x.2.1) (kvs.map (·.1))∧Vals vs (xs.map (·.2.2))∧aa1 K (hide H O) vs (kvs.map (·.2))∧kvs.length≤sizeLine
theorem aj2.mono [aa0]{K:Fr'}{O:List Addr}{H H':Hp}{a:Addr}{kvs:List (D×D)}(h:aj2 K O H a kvs)(e:Ex H H'):aj2 K O H' a kvs:=by
 obtain⟨h0,o,xs,vs,h1,h2,h3,h4,h5,h6,h7,h8,h9⟩:=h
 exact⟨h0,o,xs,vs,e _ _ h1 (fun _ z=>by cases z),h2,h3,h4,h5,h6.mono e.hide,h7,h8.mono e.hide,h9⟩
theorem aj2.over [aa0]{K:Fr'}{O O':List Addr}{H H':Hp}{a:Addr}{kvs:List (D×D)}(h:aj2 K O H a kvs)(hO:a∈O')(hH:H' a=H a)(e:Ex (hide H O) (hide H' O')):aj2 K O' H' a kvs:=by
 obtain⟨h0,o,xs,vs,h1,h2,h3,h4,h5,h6,h7,h8,h9⟩:=h
 exact⟨hO,o,xs,vs,by rw[hH];exact h1,h2,h3,h4,h5,h6.mono e,h7,h8.mono e,h9⟩
theorem aj2.at [aa0]{K:Fr'}{O:List Addr}{H:Hp}{a:Addr}{kvs:List (D×D)}(h:aj2 K O H a kvs): ∃o,H a=some (setAt a o)∧aE7 o:=
 let⟨_,o,_,_,h1,_,h3,_⟩:=h;⟨o,h1,h3.data⟩
def PlT (H:Hp)(b:Addr):Prop:= ∃(o:Obj) (its:List V),H b=some (.frz o (.tup its))∧o.dict=none
def PlB [aa0](K:Fr')(H:Hp)(v:V)(d:D):Prop:= ∃(a b:Addr) (xs:List V) (ds:List D),v= .ref a∧d= .tuple ds∧SqP K H a xs∧aa1 K H xs ds∧ds.length≤sizeLine∧xs[2]? =some (.ref b)∧PlT H b
theorem PlB.mono [aa0]{K:Fr'}{H H':Hp}{v:V}{d:D}(h:PlB K H v d)(e:Ex H H'):PlB K H' v d:=by
 obtain⟨a,b,xs,ds,h1,h2,h3,h4,h5,h6,o,its,h7,h8⟩:=h
 exact⟨a,b,xs,ds,h1,h2,a1T e h3,h4.mono e,h5,h6,o,its,e _ _ h7 (fun _ z=>by cases z),h8⟩
theorem PlB.rp [aa0]{K:Fr'}{H:Hp}{v:V}{d:D}(h:PlB K H v d):Rp K H v d:=by
 obtain⟨a,b,xs,ds,rfl,rfl,h3,h4,h5,_⟩:=h
 exact .tup h3 h4 h5
def ar0 [aa0](K:Fr')(O:List Addr)(H:Hp)(a:Addr)(kvs:List (D×D)):Prop:=
 a  ∈O∧ ∃o xs vs,H a=some (setAt a o)∧(a==sysModules)=false∧ak8 o xs∧xs.map (fun x=>kD x.1)=kvs.map (·.1)∧
    aa1 K (hide H O) (xs.map fun x=>kV x.1) (kvs.map (·.1))∧Vals vs (xs.map (·.2))∧aa1 K (hide H O) vs (kvs.map (·.2))∧kvs.length≤sizeLine
theorem ar0.over [aa0]{K:Fr'}{O O':List Addr}{H H':Hp}{a:Addr}{kvs:List (D×D)}(h:ar0 K O H a kvs)(hO:a∈O')(hH:H' a=H a)(e:Ex (hide H O) (hide H' O')):ar0 K O' H' a kvs:=by
 obtain⟨h0,o,xs,vs,h1,h2,h3,h4,h6,h7,h8,h9⟩:=h
 exact⟨hO,o,xs,vs,by rw[hH];exact h1,h2,h3,h4,h6.mono e,h7,h8.mono e,h9⟩
theorem ar0.mono [aa0]{K:Fr'}{O:List Addr}{H H':Hp}{a:Addr}{kvs:List (D×D)}(h:ar0 K O H a kvs)(e:Ex H H'):ar0 K O H' a kvs:=by
 obtain⟨o,q⟩: ∃o,H a=some (setAt a o):=let⟨_,o,_,_,h1,_⟩:=h;⟨o,h1⟩
 exact h.over h.1 (by rw[q];exact e _ _ q fun _ z=>by cases z) e.hide
def a6l (st:D)(nx:Int)(kvs:List (D×D))(ds es:List D):D:= .tuple [st,.int nx,.dict kvs,.list ds,.list es]
def bz9 (sv:V)(nx:Int)(ka la ua:Addr):List (Str×V):=[("state",sv),("next",.int nx),("kept",.ref ka),("done",.ref la),("undone",.ref ua)]
def a2b (od:Obj)(fs:List (Str×V)):Prop:= ∀(h:Heap) (dx:Addr),h.get? dx=some od→ ∃mA,h.Ns1 dx mA∧(∀f,RelO (fs.lookup f) (mA f))∧PySem.Within mA (fs.map (·.1))
def ad6 [aa0](K:Fr')(O:List Addr)(H:Hp)(a:Addr)(d:D)(p:Addr→Prop):Prop:=
 ∃  (dx ka la ua:Addr) (od:Obj) (sv:V) (st:D) (nx:Int) (kvs:List (D×D)) (ls us:List V) (ds es:List D),
    d=a6l st nx kvs ds es∧[a,dx,ka,la,ua].Nodup∧(∀b∈[a,dx,ka,la,ua],p b∧b∈O)∧
    H a=some (setAt a (PySem.W.instObj aa0.sc dx))∧H dx=some (setAt dx od)∧aE7 od∧a2b od (bz9 sv nx ka la ua)∧Rp K (hide H O) sv st∧
    ar0 K O H ka kvs∧(H la=some (.lst ls)∧aa1 K (hide H O) ls ds∧ds.length≤sizeLine)∧H ua=some (.lst us)∧aa1 K (hide H O) us es∧es.length≤sizeLine
theorem ad6.over [aa0]{K:Fr'}{O O':List Addr}{H H':Hp}{a:Addr}{d:D}{p q:Addr→Prop}(h:ad6 K O H a d p)(hk: ∀b u,p b→b∈O→H b=some u→Hid b u→q b∧b∈O'∧H' b=some u)(e:Ex (hide H O) (hide H' O')):ad6 K O' H' a d q:=by
 obtain⟨dx,ka,la,ua,od,sv,st,nx,kvs,ls,us,ds,es,h1,h2,h3,h4,h5,h6,h7,h8,h9,⟨h10,h11,h12⟩,h13,h14,h15⟩:=h
 have g1:=hk a _ (h3 a (by simp)).1 (h3 a (by simp)).2 h4 (.inr ⟨_,rfl,.inr (.inr rfl)⟩)
 have g2:=hk dx _ (h3 dx (by simp)).1 (h3 dx (by simp)).2 h5 (.inr ⟨_,rfl,.inl h6⟩)
 obtain⟨o,xs,vs,k1,k2,k3,k4⟩:=id h9.2
 have g3:=hk ka _ (h3 ka (by simp)).1 (h3 ka (by simp)).2 k1 (.inr ⟨_,rfl,.inl (let⟨es,ep,_,d,_⟩:=k3;⟨es,ep,d⟩)⟩)
 have g4:=hk la _ (h3 la (by simp)).1 (h3 la (by simp)).2 h10 (.inl ⟨_,rfl⟩)
 have g5:=hk ua _ (h3 ua (by simp)).1 (h3 ua (by simp)).2 h13 (.inl ⟨_,rfl⟩)
 refine⟨dx,ka,la,ua,od,sv,st,nx,kvs,ls,us,ds,es,h1,h2,fun b hb=> ?_,g1.2.2,g2.2.2,h6,h7,h8.mono e,h9.over g3.2.1 (by rw[g3.2.2,k1]) e,⟨g4.2.2,h11.mono e,h12⟩,g5.2.2,h14.mono e,h15⟩
 simp only[List.mem_cons,List.not_mem_nil,or_false]at hb
 rcases hb with rfl|rfl|rfl|rfl|rfl
 ·exact⟨g1.1,g1.2.1⟩
 ·exact⟨g2.1,g2.2.1⟩
 ·exact⟨g3.1,g3.2.1⟩
 ·exact⟨g4.1,g4.2.1⟩
 ·exact⟨g5.1,g5.2.1⟩
def av0 [aa0][FnT](K:Fr')(O:List Addr)(H:Hp)(σ:St)(τ:Sd):Prop:= ∃ow:Addr→Nat,
 (∀(i:Nat) (d:D),τ[i]? =some (some (Sv.sto d))→ ∃a,σ[i]? =some (some (V.ref a))∧FnT.sa a∧ad6 K O H a d (fun b=>ow b=a+1))∧
 (∀(i:Nat) (x:Sv) (a:Addr),x.owned=true→τ[i]? =some (some x)→σ[i]? =some (some (V.ref a))→ow a=0)∧
 ∀(i j:Nat) (a:Addr) (d e:D),i≠j→τ[i]? =some (some (Sv.sto d))→τ[j]? =some (some (Sv.sto e))→σ[i]? =some (some (V.ref a))→σ[j]? =some (some (V.ref a))→False
theorem av0.none [aa0][FnT]{K:Fr'}{O:List Addr}{H:Hp}{σ:St}{τ:Sd}(h: ∀(i:Nat) (d:D),τ[i]? ≠some (some (Sv.sto d))):av0 K O H σ τ:=
 ⟨fun _=>0,fun i d e=>absurd e (h i d),fun _ _ _ _ _ _=>rfl,fun i _ _ d _ _ e=>absurd e (h i d)⟩
theorem av0.to [aa0][FnT]{K:Fr'}{O O':List Addr}{H H':Hp}{σ σ':St}{τ τ':Sd}(h:av0 K O H σ τ)
  (hs: ∀(i:Nat) (d:D),τ'[i]? =some (some (Sv.sto d))→ ∃j:Nat,τ[j]? =some (some (Sv.sto d))∧σ'[i]? =σ[j]?)
  (inj: ∀(i k:Nat) (a:Addr) (d e:D),i≠k→τ'[i]? =some (some (Sv.sto d))→τ'[k]? =some (some (Sv.sto e))→σ'[i]? =some (some (V.ref a))→σ'[k]? =some (some (V.ref a))→ ∃(i' k':Nat) (d e:D),i'≠k'∧τ[i']? =some (some (Sv.sto d))∧τ[k']? =some (some (Sv.sto e))∧σ[i']? =some (some (V.ref a))∧σ[k']? =some (some (V.ref a)))
  (ho: ∀(i:Nat) (x:Sv) (a:Addr),x.owned=true→τ'[i]? =some (some x)→σ'[i]? =some (some (V.ref a))→(∃(j:Nat) (y:Sv),y.owned=true∧τ[j]? =some (some y)∧σ[j]? =some (some (V.ref a)))∨Fr H a)
  (hk: ∀(b:Addr) (u:HO),H b=some u→Hid b u→b∈O→(∀(j:Nat) (y:Sv),y.owned=true→τ[j]? =some (some y)→σ[j]? ≠some (some (V.ref b)))→b∈O'∧H' b=some u)
  (e:Ex (hide H O) (hide H' O')):av0 K O' H' σ' τ':=by
 obtain⟨ow,h1,h2,h3⟩:=h
 classical
 refine⟨fun b=>if Fr H b then 0 else ow b,fun i d q=> ?_,fun i x a ox q1 q2=> ?_,fun i k a d1 d2 hik q1 q2 q3 q4=> ?_⟩
 ·obtain⟨j,g1,g2⟩:=hs i d q
  obtain⟨a,g3,gs,g4⟩:=h1 j d g1
  refine⟨a,by rw[g2];exact g3,gs,g4.over (fun b u hb hO q d=> ?_) e⟩
  have nf: ¬Fr H b:=fun f=>f.hid q d
  refine⟨by simp only[if_neg nf];exact hb,hk b u q d hO fun j y oy z1 z2=> ?_⟩
  have:=h2 j y b oy z1 z2
  rw[hb]at this
  cases this
 ·rcases ho i x a ox q1 q2 with⟨j,y,oy,g1,g2⟩|f
  ·simp only
   split
   ·rfl
   ·exact h2 j y a oy g1 g2
  ·simp only[if_pos f]
 ·obtain⟨i',k',e1,e2,n,g1,g2,g3,g4⟩:=inj i k a d1 d2 hik q1 q2 q3 q4
  exact h3 i' k' a e1 e2 n g1 g2 g3 g4
theorem av0.sub [aa0][FnT]{K:Fr'}{O O':List Addr}{H H':Hp}{σ σ':St}{τ τ':Sd}(h:av0 K O H σ τ)
  (hs: ∀(i:Nat) (d:D),τ'[i]? =some (some (Sv.sto d))→τ[i]? =some (some (Sv.sto d))∧σ'[i]? =σ[i]?)
  (ho: ∀(i:Nat) (x:Sv) (a:Addr),x.owned=true→τ'[i]? =some (some x)→σ'[i]? =some (some (V.ref a))→(∃(j:Nat) (y:Sv),y.owned=true∧τ[j]? =some (some y)∧σ[j]? =some (some (V.ref a)))∨Fr H a)
  (hk: ∀(b:Addr) (u:HO),H b=some u→Hid b u→b∈O→(∀(j:Nat) (y:Sv),y.owned=true→τ[j]? =some (some y)→σ[j]? ≠some (some (V.ref b)))→b∈O'∧H' b=some u)
  (e:Ex (hide H O) (hide H' O')):av0 K O' H' σ' τ':=
 h.to (fun i d q=>⟨i,hs i d q⟩) (fun i k a d1 d2 n q1 q2 q3 q4=>⟨i,k,d1,d2,n,(hs i d1 q1).1,(hs k d2 q2).1,(hs i d1 q1).2▸q3,(hs k d2 q2).2▸q4⟩) ho hk e
structure RS [aa0][FnT](K:Fr')(O:List Addr)(H:Hp)(σ:St)(τ:Sd):Prop where
 tab:LamX.Tabs aa0.T H
 len:σ.length=τ.length
 lst:ab3 H O
 val: ∀(i:Nat) (d:D),τ[i]? =some (some (Sv.val d))→ ∃v,σ[i]? =some (some v)∧Rp K (hide H O) v d
 own: ∀(i:Nat) (xs:List D),τ[i]? =some (some (Sv.own xs))→ ∃a vs,σ[i]? =some (some (.ref a))∧a∈O∧H a=some (.lst vs)∧aa1 K (hide H O) vs xs∧xs.length≤sizeLine
 dct: ∀(i:Nat) (kvs:List (D×D)),τ[i]? =some (some (Sv.dct kvs))→ ∃a,σ[i]? =some (some (.ref a))∧aj2 K O H a kvs
 sep: ∀(i j:Nat) (a:Addr) (x y:Sv),i≠j→x.owned=true→y.owned=true→τ[i]? =some (some x)→τ[j]? =some (some y)→σ[i]? =some (some (.ref a))→σ[j]? =some (some (.ref a))→False
 fnc: ∀(i g:Nat),τ[i]? =some (some (Sv.fnc g))→σ[i]? =some (some (.ref (FnT.fa g)))∧FnT.ok g (hide H O)
 plv: ∀(i:Nat) (d:D),τ[i]? =some (some (Sv.plv d))→ ∃v,σ[i]? =some (some v)∧PlB K (hide H O) v d
 sto:av0 K O H σ τ
theorem get_set {α:Type}{l:List α}{i j:Nat}{x y:α}(h:(l.set i x)[j]? =some y):(j=i∧y=x∧i<l.length)∨(j≠i∧l[j]? =some y):=by
 by_cases hj:i=j
 ·subst hj
  by_cases hl:i<l.length
  ·rw[List.getElem?_set_self hl]at h
   exact .inl ⟨rfl,(Option.some.inj h).symm,hl⟩
  ·rw[List.getElem?_eq_none (by simpa using hl)]at h;cases h
 ·rw[List.getElem?_set_ne hj]at h;exact .inr ⟨Ne.symm hj,h⟩
section
variable [aa0] [FnT] {K:Fr'} {O:List Addr} {H H':Hp} {σ:St} {τ:Sd}
theorem RS.mono (r:RS K O H σ τ)(e:Same H H'):RS K O H' σ τ:=
 ⟨e.tab r.tab,r.len,r.lst.mono e.ex,fun i d h=>let⟨v,h1,h2⟩:=r.val i d h;⟨v,h1,h2.mono (Same.hide e)⟩,
  fun i xs h=>let⟨a,vs,h1,h2,h3,h4,h5⟩:=r.own i xs h;⟨a,vs,h1,h2,e.lst h3,h4.mono (Same.hide e),h5⟩,fun i kvs h=>let⟨a,h1,h2⟩:=r.dct i kvs h;⟨a,h1,h2.mono e.ex⟩,r.sep,fun i g h=>⟨(r.fnc i g h).1,FnT.mono g _ _ (Same.hide e) (r.fnc i g h).2⟩,fun i d h=>let⟨v,h1,h2⟩:=r.plv i d h;⟨v,h1,h2.mono (Same.hide e)⟩,
  r.sto.sub (fun _ _ q=>⟨q,rfl⟩) (fun i x a ox q1 q2=> .inl ⟨i,x,ox,q1,q2⟩) (fun b u q d hO _=>⟨hO,e.ex.hid q d⟩) (Same.hide e)⟩
theorem RS.aS6 (r:RS K O H σ τ){i:Nat}{v:V}{d:D}(h:Rp K (hide H O) v d):RS K O H (σ.set i (some v)) (τ.set i (some (Sv.val d))):=by
 refine⟨r.tab,by simp[r.len],r.lst,fun j d' e=> ?_,fun j xs e=> ?_,fun j kvs e=> ?_,fun j k a x y hjk ox oy e1 e2 e3 e4=> ?_,fun j g e=>(by
  rcases get_set e with⟨_,z,_⟩|⟨hj,e⟩
  ·cases z
  ·rw[List.getElem?_set_ne (Ne.symm hj)];exact r.fnc j g e),fun j g e=>(by
  rcases get_set e with⟨_,z,_⟩|⟨hj,e⟩
  ·cases z
  ·rw[List.getElem?_set_ne (Ne.symm hj)];exact r.plv j g e),r.sto.sub (fun j d' e=>by
  rcases get_set e with⟨_,z,_⟩|⟨hj,e⟩
  ·cases z
  ·exact⟨e,List.getElem?_set_ne (Ne.symm hj)⟩) (fun j x a ox e q=>by
  rcases get_set e with⟨_,z,_⟩|⟨hj,e⟩
  ·cases z;cases ox
  ·rw[List.getElem?_set_ne (Ne.symm hj)]at q
   exact .inl ⟨j,x,ox,e,q⟩) (fun b u q d hO _=>⟨hO,q⟩) (Ex.refl _)⟩
 ·rcases get_set e with⟨rfl,z,hl⟩|⟨hj,e⟩
  ·cases z
   exact⟨v,by rw[List.getElem?_set_self (by rw[r.len];exact hl)],h⟩
  ·obtain⟨u,h1,h2⟩:=r.val j d' e
   exact⟨u,by rw[List.getElem?_set_ne (Ne.symm hj)];exact h1,h2⟩
 ·rcases get_set e with⟨_,z,_⟩|⟨hj,e⟩
  ·cases z
  ·obtain⟨a,vs,h1,h2⟩:=r.own j xs e
   exact⟨a,vs,by rw[List.getElem?_set_ne (Ne.symm hj)];exact h1,h2⟩
 ·rcases get_set e with⟨_,z,_⟩|⟨hj,e⟩
  ·cases z
  ·obtain⟨a,h1,h2⟩:=r.dct j kvs e
   exact⟨a,by rw[List.getElem?_set_ne (Ne.symm hj)];exact h1,h2⟩
 ·rcases get_set e1 with⟨_,z,_⟩|⟨hj,e1⟩
  ·cases z;cases ox
  ·rcases get_set e2 with⟨_,z,_⟩|⟨hk,e2⟩
   ·cases z;cases oy
   ·    rw[List.getElem?_set_ne (Ne.symm hj)]at e3
        rw[List.getElem?_set_ne (Ne.symm hk)]at e4
        exact r.sep j k a x y hjk ox oy e1 e2 e3 e4
theorem RS.b7m (r:RS K O H σ τ)(i:Nat):RS K O H (σ.set i none) (τ.set i none):=by
 have key: ∀ {j:Nat} {z:Sv},(τ.set i none)[j]? =some (some z)→j≠i∧τ[j]? =some (some z):=fun {j z} e=>by
  rcases get_set e with⟨_,z,_⟩|h
  ·cases z
  ·exact h
 refine⟨r.tab,by simp[r.len],r.lst,fun j d' e=> ?_,fun j xs e=> ?_,fun j kvs e=> ?_,fun j k a x y hjk ox oy e1 e2 e3 e4=> ?_,fun j g e=>(by
  obtain⟨hj,e⟩:=key e
  rw[List.getElem?_set_ne (Ne.symm hj)];exact r.fnc j g e),fun j g e=>(by
  obtain⟨hj,e⟩:=key e
  rw[List.getElem?_set_ne (Ne.symm hj)];exact r.plv j g e),r.sto.sub (fun j d' e=>by
  obtain⟨hj,e⟩:=key e
  exact⟨e,List.getElem?_set_ne (Ne.symm hj)⟩) (fun j x a ox e q=>by
  obtain⟨hj,e⟩:=key e
  rw[List.getElem?_set_ne (Ne.symm hj)]at q
  exact .inl ⟨j,x,ox,e,q⟩) (fun b u q d hO _=>⟨hO,q⟩) (Ex.refl _)⟩
 ·obtain⟨hj,e⟩:=key e
  obtain⟨u,h1,h2⟩:=r.val j d' e
  exact⟨u,by rw[List.getElem?_set_ne (Ne.symm hj)];exact h1,h2⟩
 ·obtain⟨hj,e⟩:=key e
  obtain⟨a,vs,h1,h2⟩:=r.own j xs e
  exact⟨a,vs,by rw[List.getElem?_set_ne (Ne.symm hj)];exact h1,h2⟩
 ·obtain⟨hj,e⟩:=key e
  obtain⟨a,h1,h2⟩:=r.dct j kvs e
  exact⟨a,by rw[List.getElem?_set_ne (Ne.symm hj)];exact h1,h2⟩
 ·obtain⟨hj,e1⟩:=key e1
  obtain⟨hk,e2⟩:=key e2
  rw[List.getElem?_set_ne (Ne.symm hj)]at e3
  rw[List.getElem?_set_ne (Ne.symm hk)]at e4
  exact r.sep j k a x y hjk ox oy e1 e2 e3 e4
theorem RS.wipe (r:RS K O H σ τ): ∀vs:List Nat,RS K O H (L2.wipe σ vs) (an7 τ vs)
 | []=>r
 |v::vs=>(RS.wipe r vs).b7m v
theorem RS.ak7: ∀ {is:List Nat} {vs:List V} {ds:List D} {σ:St} {τ:Sd},RS K O H σ τ→aa1 K (hide H O) vs ds→is.length=ds.length→
  ∃σ',RS K O H σ' (Fz.ak7 τ is ds)
 | [],_,_,σ,_,r,_,_=>⟨σ,by cases ‹aa1 _ _ _ _› <;>simpa[Fz.ak7]using r⟩
 |i::is,_,_,σ,τ,r,.cons h1 h2,hl=>by
  obtain⟨σ',q⟩:=RS.ak7 (is:=is) (r.aS6 (i:=i) h1) h2 (by simpa using hl)
  exact⟨σ',by simpa[Fz.ak7]using q⟩
 |_::_,_,_,_,_,_,.nil,hl=>by simp at hl
theorem RS.a6m (r:RS K O H σ τ)(e:Same H H'){a:Addr}{u:HO}(hn:Fr H a)(hp:H' a=some u)(hd:Hid a u):RS K (a::O) H' σ τ:=by
 have ne: ∀ {b:Addr} {w:HO},H b=some w→Hid b w→b≠a:=fun {b w} q d z=>by
  subst z
  exact hn.hid q d
 have nv: ∀ {b:Addr} {w:HO},H b=some w→(∀ps,w≠ .tbl ps)→b≠a:=fun {b w} q d z=>by
  subst z
  obtain⟨ps,z⟩:=hn _ q
  exact d ps z
 have hh:Ex (hide H O) (hide H' (a::O)):=fun b o q n=>by
  obtain⟨h1,h2⟩:=au6 q
  rw[ac1 (by simp[nv h2 n,h1])]
  exact e.ex b o h2 n
 refine⟨e.tab r.tab,r.len,fun b hb=> ?_,fun i d q=> ?_,fun i xs q=> ?_,fun i kvs q=> ?_,r.sep,fun i g q=>⟨(r.fnc i g q).1,FnT.mono g _ _ hh (r.fnc i g q).2⟩,fun i d q=>let⟨v,h1,h2⟩:=r.plv i d q;⟨v,h1,h2.mono hh⟩,r.sto.sub (fun _ _ q=>⟨q,rfl⟩) (fun i x a ox q1 q2=> .inl ⟨i,x,ox,q1,q2⟩) (fun b u q d hO _=>⟨List.mem_cons_of_mem _ hO,e.ex.hid q d⟩) hh⟩
 ·rcases List.mem_cons.mp hb with rfl|hb
  ·exact⟨u,hp,hd⟩
  ·exact(r.lst.mono e.ex) b hb
 ·obtain⟨v,h1,h2⟩:=r.val i d q
  exact⟨v,h1,h2.mono hh⟩
 ·obtain⟨b,ws,h1,h2,h3,h4,h5⟩:=r.own i xs q
  exact⟨b,ws,h1,List.mem_cons_of_mem _ h2,e.lst h3,h4.mono hh,h5⟩
 ·obtain⟨b,h1,h2⟩:=r.dct i kvs q
  obtain⟨o,h3,h4⟩:=h2.at
  refine⟨b,h1,h2.over (List.mem_cons_of_mem _ h2.1) ?_ hh⟩
  rw[h3]
  exact e.ex _ _ h3 fun _ z=>by cases z
end
end Fz
namespace Fz
open PySem PySem.Spec L2 PyProof.Rows
section
variable {X:Cx} {pins:List (Addr×Obj)} {s:Shared} {σ:L2.St} {H:Hp} {Q:VK}
abbrev ay4 (H:Hp)(Q:VK)(xs:List V):Prop:= ∀(p:Addr) (o:Obj),H p=none→o.dict=none→Q (.ref p) (upd H p (.frz o (.tup xs)))
theorem ay8 {xs:List V}{its:List Value}(J:Inv X pins σ H s)(r:Vals xs its)(z:xs.length≤sizeLine)(q:ay4 H Q xs):
  EP X pins σ Q (.ref s.heap.objs.size) { s with heap:=s.heap.push { cls:= .type "tuple",data:= .seq its.toArray } }:=by
 let o:Obj:= { cls:= .type "tuple",data:= .seq its.toArray }
 have hg:(s.heap.push o).get? s.heap.objs.size=some o:=Heap.get?_push_size _ rfl
 have J2:Inv X pins σ (upd H s.heap.objs.size (.frz o (.tup xs))) { s with heap:=s.heap.push o }:=
  J.laid (t':=s.toks) (fun b u e=>Heap.get?_push_of_some _ e) (Nat.le_refl _) (show ObjOk X.prog X.w _ (s.heap.push o) s.heap.objs.size (.frz o (.tup xs))from⟨hg,z,its,r,o,hg,rfl,_,rfl⟩)
 exact⟨.ref s.heap.objs.size,_,J2,rfl,q _ o (J.hok.fresh (Nat.le_refl _)) rfl⟩
end
section
variable {X:Cx}
def b7q (K:Fr'):R2:=fun x y H Q=> ∃a b xs ys,x= .ref a∧y= .ref b∧SqT K H a xs∧SqT K H b ys∧xs.length+ys.length≤sizeLine∧
 (xs=[]→Q (.ref b) H)∧(xs≠[]→ys=[]→Q (.ref a) H)∧(xs≠[]→ys≠[]→ay4 H Q (xs++ys))
theorem b7r:OpR X (binaryOp .Add) (b7q X.K):=by
 intro pins s σ H x y v u Q I rx ry ⟨a,b,xs,ys,ex,ey,ha,hb,hz,q0,q1,q2⟩
 subst ex ey
 cases rx
 cases ry
 obtain⟨us,r1,p1,_⟩:=I.tuple ha
 obtain⟨ws,r2,p2,_⟩:=I.tuple hb
 have n1:=r1.length
 have n2:=r2.length
 by_cases hx:us=[]
 ·subst hx
  cases r1
  exact cat_tup0 p1 p2 ⟨.ref b,H,I,rfl,q0 rfl⟩
 ·have hx':xs≠[]:=fun z=>hx (by subst z;exact List.eq_nil_of_length_eq_zero n1.symm)
  refine HT.cat_tup p1 p2 hx (fun z=> ?_) (fun z=> ?_) (by omega)
  ·subst z
   cases r2
   exact⟨.ref a,H,I,rfl,q1 hx' rfl⟩
  ·exact ay8 I (r1.append r2) (by rw[List.length_append];exact hz) (q2 hx' fun w=>z (by subst w;exact List.eq_nil_of_length_eq_zero n2.symm))
def b7s (K:Fr'):V→Option Int→Option Int→Hp→VK→Prop:=fun x lo hi H Q=> ∃a xs,x= .ref a∧SqT K H a xs∧
 (HT.sIx xs.length 0 lo=0∧HT.sIx xs.length xs.length hi=xs.length→Q (.ref a) H)∧(¬(HT.sIx xs.length 0 lo=0∧HT.sIx xs.length xs.length hi=xs.length)→ay4 H Q (cutV xs lo hi))
theorem b7v:SlR X (b7s X.K):=by
 intro pins s σ H x v vl vu lo hi sl Q I rx hs pl pu ⟨a,xs,ex,hx,q1,q2⟩
 subst ex
 cases rx
 obtain⟨us,r,ht,hz⟩:=I.tuple hx
 have n:=r.length
 have hlen:us.toArray.size=xs.length:=by rw[List.size_toArray];omega
 refine⟨"tuple",_,PyProof.Rows.slot_tuple_getitem.lookup,ht.typeIs,?_⟩
 by_cases hw:HT.sIx xs.length 0 lo=0∧HT.sIx xs.length xs.length hi=xs.length
 ·exact getItem_tuple_whole ht hs pl pu (by rw[hlen];exact hw) ⟨.ref a,H,I,rfl,q1 hw⟩
 ·refine HT.getItem_tuple_cut ht hs pl pu (by rw[hlen];exact hw) ?_ (by rw[hlen];exact hz)
  rw[hlen]
  exact ay8 I ((r.drop _).take _) (Nat.le_trans (cutV_length xs lo hi) hz) (q2 hw)
def b7y (K:Fr'):R2:=fun x y H Q=> ∃l k xs,x= .ref l∧y= .int k∧SqT K H l xs∧xs≠[]∧2≤k∧k≤1000∧xs.length≤1000∧ay4 H Q (List.replicate k.toNat xs).flatten
theorem b7A:OpR X (binaryOp .Mult) (b7y X.K):=by
 intro pins s σ H x y v u Q I rx ry ⟨l,k,xs,ex,ey,hT,hne,h1,h2,hz,q⟩
 subst ex ey
 cases rx
 obtain⟨t,rfl⟩:=ry
 obtain⟨us,r,⟨⟨cls,dd,data,sl⟩,ho,hc,n,hd⟩,hs⟩:=I.tuple hT
 simp only at hc hd
 subst hc hd
 have n1:=r.length
 have hn:us≠[]:=fun z=>hne (by subst z;exact List.eq_nil_of_length_eq_zero n1)
 have hi:us.toArray.isEmpty=false:=by
  cases us with
  |nil=>exact absurd rfl hn
  |cons a b=>rfl
 have z0:us.toArray.size=xs.length:=by rw[List.size_toArray];omega
 have z1:((us.toArray.size:Nat):Int)*k≤1000*k:=Int.mul_le_mul_of_nonneg_right (by omega) (by omega)
 have z2:(0:Int)≤((us.toArray.size:Nat):Int)*k:=Int.mul_nonneg (by omega) (by omega)
 have z3:k.toNat*xs.length≤1000*1000:=Nat.mul_le_mul (by omega) hz
 have hm:((us.toArray.size:Nat):Int)*k≤1000000:=by omega
 have c4:Builtin.Tuple.tupleTooMany (((us.toArray.size:Nat):Int)*k)=false:=by
  unfold Builtin.Tuple.tupleTooMany
  rw[sizeLine_eq]
  exact decide_eq_false (by omega)
 have zl:(List.replicate k.toNat us).flatten.length≤sizeLine:=by rw[PyProof.Rows.lm_len_rep_flat,sizeLine_eq,←n1];omega
 refine wpAny_binaryOp_repeat_ref (T:="tuple") (U:="int") (by decide) ⟨_,ho,rfl⟩ (fun s'=>typeIs_int s' k t) noFill_tuple_mul F.fills_int_mul F.slot_int_rmul repeat_tuple F.slot_int_index.lookup
  (call_meets F.slot_int_rmul (typeIs_int s k t) F.entry_int_rmul (F.args_int_rmul_2 _ _) (int_rmul_tuple k t l us.toArray n dd sl) ⟨ho,rfl,⟨_,ho,rfl⟩,
   call_meets F.slot_tuple_mul ⟨_,ho,rfl⟩ F.entry_tuple_mul (F.args_tuple_mul_2 _ _) (tuple_mulW l us.toArray n dd sl k t (by simp only[Bool.or_eq_false_iff,decide_eq_false_iff_not];omega) (by rw[hi,Bool.false_or];exact beq_eq_false_iff_ne.mpr (by omega)) (by rw[hi,Bool.or_false];exact decide_eq_false (by omega)) (by omega) c4
        (by rw[size_rep,List.size_toArray];exact zl)) ⟨ho,?_⟩⟩)
 rw[size_rep]
 exact ay8 I (r.rep k.toNat) (by rw[PyProof.Rows.lm_len_rep_flat,sizeLine_eq];omega) q
theorem bA1:CallR X (.type "tuple") (fun xs H Q=> ∃p ys,xs=[.ref p]∧((SqL X.K H p ys∧ay4 H Q ys)∨(SqT X.K H p ys∧Q (.ref p) H))):=by
 intro pins s σ H xs us Q I r ⟨p,ys,exs,h⟩
 subst exs
 obtain⟨u,rfl,ru⟩:=vals1 r
 cases ru
 rcases h with⟨sq,q⟩|⟨sq,q⟩
 ·obtain⟨its,rv,pl,hz⟩:=I.list sq
  have hn:=rv.length
  refine call_tuple_list pl.isList (fun h' kp=> ?_) (by rw[List.size_toArray];omega)
  exact ay8 (s:= { s with heap:=h' }) (I.kept (t':=s.toks) kp) rv hz q
 ·obtain⟨its,rv,pl,hz⟩:=I.tuple sq
  exact call_tuple_same pl ⟨.ref p,H,I,rfl,q⟩
def b7B (t:TA):TE:=fun σ H Q=>t σ H fun xs H1=>xs.length≤sizeLine∧ay4 H1 Q xs
theorem b7C {es:List Expr}{t:TA}{k:Nat}{pos:Pos}(h:PA X es t):PE X (.Tuple es k pos) (b7B t):=
 ⟨fun pins s σ H Q I hq=>wpAny_Tuple_spliced (thn (h.run pos pins s σ H _ I hq) fun us s1 ⟨xs,H1,I1,r,z,q⟩=>⟨r.length▸z,ay8 I1 r z q⟩)⟩
def b7D (te:L2.St→Hp→(Int→Int→Hp→Prop)→Prop):TE:=fun σ H Q=>te σ H fun a b H1=>RgOk a b∧ay4 H1 Q (rgV a b)
theorem b7E {e:Expr}{te:L2.St→Hp→(Int→Int→Hp→Prop)→Prop}{p pos:Pos}(hc:X.calm=true)(hg:Gl X "tuple")(hm:X.mg "tuple"=none)(he:PRg X e te)(na:starEach [e] X.env=(false,eval e X.env)::starEach [] X.env:=by rfl):PE X (.Call (.Name "tuple" p) [e] [] pos) (b7D te):=by
 refine⟨fun pins s σ H Q I h=>Call_ (ld_blt I hg hm boot_tuple (PyProof.Rows.callWith_type1 (args_cons (thn (he pins s σ H _ I h) fun x s1 ⟨r,a,b,t,u,v,H1,ex,hr,I1,ok,q⟩=>args_nil ?_) na) na))⟩
 subst ex
 obtain⟨b1,b2,b3,b4,b5⟩:=ok
 refine call_tuple_range (n:=(b-a).toNat) (I1.ok.hd hc) hr (small_one b1 b2 b3 b4) (rangeSize_nat a b) b5 fun h' tk acc hk hi=> ?_
 have z:=ay8 (s:= { s1 with heap:=h',toks:=tk }) (I1.kept hk) (vals_rg hi) (by rw[rgV_length,sizeLine_eq];omega) q
 rw[Array.toArray_toList]at z
 exact z
end
section
variable {X:Cx} {pins:List (Addr×Obj)} {s:Shared} {σ:L2.St} {H:Hp}
theorem bA2 {a:Addr}{xs:List V}(I:Inv X pins σ H s)(h:SqP X.K H a xs): ∃its:List Value,Vals xs its∧PySem.PlainSeq "tuple" s.heap a its.toArray∧xs.length≤sizeLine:=by
 rcases h with⟨o,h,d⟩|⟨o,its,n,k1,k2,k3,k4,k5,k6⟩
 ·obtain⟨g1,z,its,r,o2,g2,g3,n,g4⟩:=(show ObjOk X.prog X.w H s.heap a (.frz o (.tup xs))from I.hok _ _ h)
  rw[g1]at g2
  cases g2
  exact⟨its,r,⟨o,n,g1,g3,d,g4⟩,z⟩
 ·have e:=k6.length
  simp only[Array.length_toList]at e
  exact⟨its.toList,k6,⟨o,n,I.kIn a o k1,k2,k3,by simpa using k4⟩,by omega⟩
end
end Fz
namespace Fz
open PySem PySem.Spec L2
variable [aa0]
def Vd (K:Fr')(O:List Addr)(H:Hp)(v:V)(d:D):Prop:=
 Rp K (hide H O) v d∨(∃a vs xs,v= .ref a∧d= .list xs∧a∈O∧H a=some (.lst vs)∧aa1 K (hide H O) vs xs∧xs.length≤sizeLine)∨ ∃a kvs,v= .ref a∧d= .dict kvs∧(aj2 K O H a kvs∨ar0 K O H a kvs)
theorem a6o {o:Obj}(h:ak8 o []):aJ4 o []:=by
 obtain⟨es,ep,h1,h2,_,h4,_⟩:=h
 refine⟨es,ep,h1,h2,?_,by simp⟩
 generalize hl:es.toList=l at h4
 cases h4
 rfl
section
variable {K:Fr'} {O:List Addr} {H H':Hp} {v:V}
theorem Vd.mono {d:D}(h:Vd K O H v d)(e:Ex H H'):Vd K O H' v d:=by
 rcases h with h|⟨a,vs,xs,h1,h2,h3,h4,h5,h6⟩|⟨a,kvs,h1,h2,h3⟩
 ·exact .inl (h.mono e.hide)
 ·exact .inr (.inl ⟨a,vs,xs,h1,h2,h3,e.lst h4,h5.mono e.hide,h6⟩)
 ·exact .inr (.inr ⟨a,kvs,h1,h2,h3.imp (fun h=>h.mono e) fun h=>h.mono e⟩)
theorem Vd.rp {d:D}(h:Vd K O H v d):Rp K H v d:=by
 rcases h with h|⟨a,vs,xs,rfl,rfl,h3,h4,h5,h6⟩|⟨a,kvs,rfl,rfl,h3⟩
 ·exact h.mono aa9
 ·exact .lst (.of h4) (h5.mono aa9) h6
 ·rcases h3 with⟨h0,o,xs,vs,h1,h2,h3,h4,h5,h6,h7,h8,h9⟩|⟨h0,o,xs,vs,h1,h2,h3,h4,h6,h7,h8,h9⟩
  ·exact .dct h1 h2 h3 h4 h5 (h6.mono aa9) h7 (h8.mono aa9) h9
  ·cases xs with
   |    nil=>
        have hn:kvs=[]:=List.map_eq_nil_iff.mp h4.symm
        subst hn
        cases h7
        exact .dct (vs:=[]) h1 h2 (a6o h3) rfl rfl .nil .nil .nil h9
   |cons x r=>exact .dcti h1 h2 h3 h4 (by simp) (h6.mono aa9) h7 (h8.mono aa9) h9
theorem Vd.list {xs:List D}(h:Vd K O H v (.list xs)): ∃a vs,v= .ref a∧SqL K H a vs∧aa1 K (hide H O) vs xs∧xs.length≤sizeLine:=by
 rcases h with h|⟨a,vs,xs,rfl,e,h3,h4,h5,h6⟩|⟨a,kvs,rfl,e,h3⟩
 ·cases h with
  |lst q r z=>exact⟨_,_,rfl,aE9 aa9 q,r,z⟩
 ·cases e;exact⟨a,vs,rfl,.of h4,h5,h6⟩
 ·cases e
theorem Vd.tuple {xs:List D}(h:Vd K O H v (.tuple xs)): ∃a vs,v= .ref a∧SqP K (hide H O) a vs∧aa1 K (hide H O) vs xs∧xs.length≤sizeLine:=by
 rcases h with h|⟨a,vs,xs,rfl,e,h3,h4,h5,h6⟩|⟨a,kvs,rfl,e,h3⟩
 ·cases h with
  |tup q r z=>exact⟨_,_,rfl,q,r,z⟩
 ·cases e
 ·cases e
structure al0 (K:Fr')(O:List Addr)(H:Hp)(a:Addr)(o:Obj)(xs:List (NestedKey×Addr×Value))(vs:List V)(kvs:List (D×D)):Prop where
 at_:H a=some (setAt a o)
 ns:(a==sysModules)=false
 raw:aJ4 o xs
 ke:xs.map (·.1)=kvs.map (fun p=>nk p.1)
 kd:am3 kvs=true
 rk:aa1 K (hide H O) (xs.map fun x=>V.ref x.2.1) (kvs.map (·.1))
 hv:Vals vs (xs.map (·.2.2))
 rv:aa1 K (hide H O) vs (kvs.map (·.2))
 sz:kvs.length≤sizeLine
theorem a6r {xs:List (Key×Value)}{kvs:List (D×D)}(ke:xs.map (fun x=>kD x.1)=kvs.map (·.1))(ne:xs≠[]):isI kvs=true:=by
 cases xs with
 |nil=>exact absurd rfl ne
 |cons x r=>
  cases kvs with
  |nil=>cases ke
  |cons p t=>
   obtain⟨k,u⟩:=p
   simp only[List.map_cons,List.cons.injEq]at ke
   obtain⟨j,w⟩:=x
   have e:=ke.1
   subst e
   cases j<;>rfl
theorem Vd.dict {kvs:List (D×D)}(hI:isI kvs=false)(h:Vd K O H v (.dict kvs)): ∃a o xs vs,v= .ref a∧al0 K O H a o xs vs kvs:=by
 rcases h with h|⟨a,vs,xs,rfl,e,h3,h4,h5,h6⟩|⟨a,kvs',rfl,e,h3⟩
 ·cases h with
  |dct q ns raw ke kd rk hv rv sz=>exact⟨_,_,_,_,rfl,aa9 _ _ q (fun _ z=>by cases z),ns,raw,ke,kd,rk,hv,rv,sz⟩
  |dcti q ns raw ke ne rk hv rv sz=>rw[a6r ke ne]at hI;cases hI
 ·cases e
 ·cases e
  rcases h3 with⟨h0,o,xs,vs,h1,h2,h3,h4,h5,h6,h7,h8,h9⟩|⟨h0,o,xs,vs,h1,h2,h3,h4,h6,h7,h8,h9⟩
  ·exact⟨a,o,xs,vs,rfl,h1,h2,h3,h4,h5,h6,h7,h8,h9⟩
  ·cases xs with
   |    nil=>
        have hn:kvs=[]:=List.map_eq_nil_iff.mp h4.symm
        subst hn
        cases h7
        exact⟨a,o,[],[],rfl,h1,h2,a6o h3,rfl,rfl,.nil,.nil,.nil,h9⟩
   |cons x r=>rw[a6r h4 (by simp)]at hI;cases hI
structure ar5 (K:Fr')(O:List Addr)(H:Hp)(a:Addr)(o:Obj)(es:Array DictEntry)(ep:Nat)(ks:List V)(kvs:List (D×D)):Prop where
 at_:H a=some (setAt a o)
 ns:(a==sysModules)=false
 ex:o.ExactDict
 dt:o.data= .dict es ep
 kv:Vals ks (es.toList.map (·.key))
 rk:aa1 K (hide H O) ks (kvs.map (·.1))
 sz:kvs.length≤sizeLine
theorem ar5.len {a:Addr}{o:Obj}{es:Array DictEntry}{ep:Nat}{ks:List V}{kvs:List (D×D)}(d:ar5 K O H a o es ep ks kvs):es.size=kvs.length:=by
 have h1:=d.kv.length
 have h2:=d.rk.length
 simp only[List.length_map,Array.length_toList]at h1 h2
 omega
theorem a6s (f:NestedKey×Addr×Value→DictEntry)(hf: ∀x,(f x).key= .ref x.2.1): ∀xs:List (NestedKey×Addr×Value),Vals (xs.map fun x=>V.ref x.2.1) ((xs.map f).map (·.key))
 | []=> .nil
 |x::r=> .cons (hf x) (a6s f hf r)
theorem b7F {P:Program}{w:World}{k:Key}{u:Value}(h:(mixKind P w).is k u=true):RelV (kV k) u:=by
 rcases keyIs_shape h with⟨i,t,rfl,rfl⟩|⟨x,t,rfl,rfl⟩
 ·exact⟨t,rfl⟩
 ·exact⟨t,rfl⟩
theorem bA3 {P:Program}{w:World}: ∀ {es:List DictEntry} {xs:List (Key×Value)},Pairs (mixKind P w) es xs→Vals (xs.map fun x=>kV x.1) (es.map (·.key))
 |_,_,.nil=> .nil
 |_,_,.cons h _ t=> .cons (b7F h) (bA3 t)
theorem al0.toK {a:Addr}{o:Obj}{xs:List (NestedKey×Addr×Value)}{vs:List V}{kvs:List (D×D)}(d:al0 K O H a o xs vs kvs): ∃es ep ks,ar5 K O H a o es ep ks kvs:=by
 obtain⟨es,ep,h1,h2,h3,_⟩:=d.raw
 exact⟨es,ep,_,d.at_,d.ns,h1,h2,by rw[h3];exact a6s _ (fun _=>rfl) xs,d.rk,d.sz⟩
theorem ak8.toK {a:Addr}{o:Obj}{xs:List (Key×Value)}{kvs:List (D×D)}(q:H a=some (setAt a o))(ns:(a==sysModules)=false)(raw:ak8 o xs)(rk:aa1 K (hide H O) (xs.map fun x=>kV x.1) (kvs.map (·.1)))(sz:kvs.length≤sizeLine): ∃es ep ks,ar5 K O H a o es ep ks kvs:=by
 obtain⟨es,ep,h1,h2,_,h4,_⟩:=raw
 exact⟨es,ep,_,q,ns,h1,h2,bA3 h4,rk,sz⟩
theorem Vd.aF4 {kvs:List (D×D)}(h:Vd K O H v (.dict kvs)): ∃a o es ep ks,v= .ref a∧ar5 K O H a o es ep ks kvs:=by
 cases hI:isI kvs with
 |false=>
  obtain⟨a,o,xs,vs,e,d⟩:=Vd.dict hI h
  obtain⟨es,ep,ks,q⟩:=d.toK
  exact⟨a,o,es,ep,ks,e,q⟩
 |true=>
  rcases h with h|⟨a,vs,xs,rfl,e,h3,h4,h5,h6⟩|⟨a,kvs',rfl,e,h3⟩
  ·cases h with
   |    dct q ns raw ke kd rk hv rv sz=>
        obtain⟨es,ep,ks,q⟩:=al0.toK (H:=H) (O:=O) ⟨aa9 _ _ q (fun _ z=>by cases z),ns,raw,ke,kd,rk,hv,rv,sz⟩
        exact⟨_,_,es,ep,ks,rfl,q⟩
   |    dcti q ns raw ke ne rk hv rv sz=>
        obtain⟨es,ep,ks,q⟩:=ak8.toK (K:=K) (O:=O) (aa9 _ _ q (fun _ z=>by cases z)) ns raw rk sz
        exact⟨_,_,es,ep,ks,rfl,q⟩
  ·cases e
  ·cases e
   rcases h3 with⟨h0,o,xs,vs,h1,h2,h3,h4,h5,h6,h7,h8,h9⟩|⟨h0,o,xs,vs,h1,h2,h3,h4,h6,h7,h8,h9⟩
   ·    obtain⟨es,ep,ks,q⟩:=al0.toK (K:=K) (H:=H) (O:=O) ⟨h1,h2,h3,h4,h5,h6,h7,h8,h9⟩
        exact⟨_,_,es,ep,ks,rfl,q⟩
   ·    obtain⟨es,ep,ks,q⟩:=ak8.toK (K:=K) (O:=O) h1 h2 h3 h6 h9
        exact⟨_,_,es,ep,ks,rfl,q⟩
theorem Vd.bA4 {kvs:List (D×D)}(hI:isI kvs=true)(h:Vd K O H v (.dict kvs)): ∃a o xs vs,v= .ref a∧H a=some (setAt a o)∧(a==sysModules)=false∧ak8 o xs∧xs.map (fun x=>kD x.1)=kvs.map (·.1)∧Vals vs (xs.map (·.2))∧aa1 K (hide H O) vs (kvs.map (·.2)):=by
 have no:am3 kvs=true→False:=fun z=>by
  unfold isI at hI
  split at hI
  ·simp[am3,ab8]at z
  ·simp[am3,ab8]at z
  ·cases hI
 rcases h with h|⟨a,vs,xs,rfl,e,h3,h4,h5,h6⟩|⟨a,kvs',rfl,e,h3⟩
 ·cases h with
  |dct q ns raw ke kd rk hv rv sz=>exact(no kd).elim
  |dcti q ns raw ke ne rk hv rv sz=>exact⟨_,_,_,_,rfl,aa9 _ _ q (fun _ z=>by cases z),ns,raw,ke,hv,rv⟩
 ·cases e
 ·cases e
  rcases h3 with⟨h0,o,xs,vs,h1,h2,h3,h4,h5,h6,h7,h8,h9⟩|⟨h0,o,xs,vs,h1,h2,h3,h4,h6,h7,h8,h9⟩
  ·exact(no h5).elim
  ·exact⟨a,o,xs,vs,rfl,h1,h2,h3,h4,h7,h8⟩
theorem Vd.bA5 {kvs:List (D×D)}(hF:aJ3 kvs=true)(h:Vd K O H v (.dict kvs)): ∃a o xs vs,v= .ref a∧H a=some (setAt a o)∧(a==sysModules)=false∧ak8 o xs∧xs.map (fun x=>kD x.1)=kvs.map (·.1)∧Vals vs (xs.map (·.2))∧aa1 K (hide H O) vs (kvs.map (·.2)):=by
 cases hI:isI kvs with
 |true=>exact Vd.bA4 hI h
 |false  =>
  obtain⟨a,o,xs,vs,e,d⟩:=Vd.dict hI h
  have hn:kvs=[]:=by
   cases kvs with
   |nil=>rfl
   |    cons p r=>
        obtain⟨k,u⟩:=p
        have h1:=d.kd
        simp only[aJ3,am3,List.all_cons,Bool.and_eq_true]at hF h1
        have no: ∀k:D,ai7 k=true→ab8 k=true→False:=fun k h g=>by
         cases k<;>first|(cases h;done)|(cases g;done)
        exact(no k hF.1 h1.1).elim
  subst hn
  have hx:xs=[]:=List.map_eq_nil_iff.mp d.ke
  have hs:vs=[]:=by
   have:=d.rv.length
   exact List.length_eq_zero_iff.mp (by simpa using this)
  subst hx hs
  obtain⟨es,ep,h1,h2,h3,_⟩:=d.raw
  have he:es= #[]:=by
   rw[List.map_nil]at h3
   exact Array.toList_eq_nil_iff.mp h3
  subst he
  exact⟨a,o,[],[],e,d.at_,d.ns,⟨_,ep,h1,h2,(fun e he=>absurd he (by simp)),.nil,by simp⟩,rfl,.nil,.nil⟩
theorem Vd.int {i:Int}(h:Vd K O H v (.int i)):v= .int i:=h.rp.a6k
theorem Vd.bool {i:Bool}(h:Vd K O H v (.bool i)):v= .bl i:=h.rp.aq9
theorem Vd.str {i:Str}(h:Vd K O H v (.str i)):v= .str i∧PyData.strOk i=true∧i.length≤sizeLine:=h.rp.a1V
theorem Vd.none (h:Vd K O H v .none):v= .non:=h.rp.none_of
theorem av1 {p:Addr}{vs:List V}{ds:List D}{o:Obj}(L:ab3 H O)(hp:H p=Option.none)(ho:o.dict=Option.none)(r:aa1 K (hide H O) vs ds)(z:ds.length≤sizeLine):Rp K (hide (upd H p (.frz o (.tup vs))) O) (.ref p) (.tuple ds):=by
 have hO:p∉O:=fun h=>by
  obtain⟨ws,q,_⟩:=L p h
  rw[hp]at q;cases q
 exact .tup (.of (by rw[ac1 hO];exact upd_same) ho) (r.mono (Same.hide (ab2 hp))) z
theorem ao8 {p:Addr}{vs:List V}{ds:List D}(L:ab3 H O)(hp:H p=Option.none)(r:aa1 K (hide H O) vs ds)(z:ds.length≤sizeLine):Rp K (hide (upd H p (.lst vs)) O) (.ref p) (.list ds):=by
 have hO:p∉O:=fun h=>by
  obtain⟨ws,q,_⟩:=L p h
  rw[hp]at q;cases q
 exact .lst (.of (by rw[ac1 hO];exact upd_same)) (r.mono (Same.hide (ab2 hp))) z
end
def r2 (K:Fr')(g:D→D→R D):R2:=fun x y H Q=> ∃O d1 d2 d,ab3 H O∧Vd K O H x d1∧Vd K O H y d2∧g d1 d2= .ok d∧ ∀v H',Same H H'→Rp K (hide H' O) v d→Q v H'
abbrev aj3 (X:Cx)(f:Value→Value→Sem Value)(g:D→D→R D):Prop:=OpR X f (r2 X.K g)
def r1 (K:Fr')(g:D→R D):List V→Hp→VK→Prop:=fun xs H Q=> ∃O x d1 d,xs=[x]∧ab3 H O∧Vd K O H x d1∧g d1= .ok d∧ ∀v H',Same H H'→Rp K (hide H' O) v d→Q v H'
abbrev ao0 (X:Cx)(f:Value)(g:D→R D):Prop:=CallR X f (r1 X.K g)
theorem af1 {c:Prop}[Decidable c]{d e:D}(h:(if c then R.ok d else R.no)= .ok e):c∧d=e:=by
 by_cases hc:c
 ·rw[if_pos hc]at h;cases h;exact⟨hc,rfl⟩
 ·rw[if_neg hc]at h;cases h
theorem bA8 {X:Cx}{pins:List (Addr×Obj)}{s:Shared}{σ:St}{H:Hp}{Q:VK}{a b:Addr}{v u:Value}{vs ws:List V}(I:Inv X pins σ H s)(rx:RelV (.ref a) v)(ry:RelV (.ref b) u)
  (s1:SqL X.K H a vs) (s2:SqL X.K H b ws) (hz:vs.length+ws.length≤sizeLine) (q: ∀p,H p=none→Q (.ref p) (upd H p (.lst (vs++ws)))):
  wpAny (model X.prog X.w) X.A (binaryOp .Add v u) (EP X pins σ Q) X.xe s:=by
 cases rx;cases ry
 obtain⟨its,r1,p1,z1⟩:=I.list s1
 obtain⟨its2,r2,p2,z2⟩:=I.list s2
 have n1:=r1.length
 have n2:=r2.length
 obtain⟨⟨cls,dd,data,sl⟩,n,ho,hc,hdd,hd⟩:=p1
 obtain⟨⟨cls2,dd2,data2,sl2⟩,m,ho2,hc2,hdd2,hd2⟩:=p2
 simp only at hc hd hc2 hd2
 subst hc hd hc2 hd2
 have e:its.toArray++its2.toArray=(its++its2).toArray:=by simp
 refine concat_meets ⟨_,ho,rfl⟩ ⟨_,ho2,rfl⟩ noFill_list_add seq_list_add PySem.F.slot_list_add PySem.F.entry_list_add (PySem.F.args_list_add_2 _ _) (PyProof.Rows.list_addW a b its.toArray its2.toArray n m dd dd2 sl sl2 (by simp only[List.size_toArray];omega)) ⟨ho,ho2,?_⟩
 rw[e]
 exact⟨.ref _,_,I.lnew (t':=s.toks) (r1.append r2) (by rw[List.length_append];omega),rfl,q _ I.fresh⟩
section
variable {X:Cx}
theorem add_ok:aj3 X (binaryOp .Add) (o2 .add):=by
 intro pins s σ H x y v u Q I rx ry h
 obtain⟨O,d1,d2,d,L,v1,v2,e,q⟩:=h
 cases d1<;>cases d2<;>try (cases e)
 ·rename_i i j
  cases v1.int;cases v2.int
  exact op_add pins s σ H _ _ v u Q I rx ry ⟨i,j,rfl,rfl,q _ _ (Same.refl _) (.int _)⟩
 ·rename_i a b
  obtain⟨hc,rfl⟩:=af1 e
  obtain⟨rfl,o1,z1⟩:=v1.str
  obtain⟨rfl,o2,z2⟩:=v2.str
  refine op_add_str pins s σ H _ _ v u Q I rx ry ⟨a,b,rfl,rfl,hc,q _ _ (Same.refl _) (.str _ ?_ ?_)⟩
  ·show(a.cps++b.cps).all _=true
   rw[Array.all_append]
   simp only[PyData.strOk]at o1 o2
   rw[o1,o2];rfl
  ·show(a.cps++b.cps).size≤_
   rw[Array.size_append];exact hc
 ·rename_i xs ys
  obtain⟨hc,rfl⟩:=af1 e
  obtain⟨a,vs,rfl,s1,r1,z1⟩:=v1.list
  obtain⟨b,ws,rfl,s2,r2,z2⟩:=v2.list
  exact bA8 I rx ry s1 s2 (by have:=r1.length;have:=r2.length;omega) fun p hp=>q _ _ (ab2 hp) (ao8 L hp (r1.append r2) (by simpa using hc))
 ·rename_i xs ys
  obtain⟨hc,rfl⟩:=af1 e
  obtain⟨a,vs,rfl,s1,r1,z1⟩:=v1.tuple
  obtain⟨b,ws,rfl,s2,r2,z2⟩:=v2.tuple
  have n1:=r1.length
  have n2:=r2.length
  refine b7r pins s σ H _ _ v u Q I rx ry ⟨a,b,vs,ws,rfl,rfl,af0 aa9 s1.t,af0 aa9 s2.t,by omega,fun h0=> ?_,fun h0 h1=> ?_,fun _ _ p o hp ho=> ?_⟩
  ·subst h0
   cases r1
   exact q _ _ (Same.refl _) (.tup s2 r2 z2)
  ·subst h1
   cases r2
   exact q _ _ (Same.refl _) (.tup s1 (by simpa using r1) (by simpa using z1))
  ·exact q _ _ (ab2 hp) (av1 L hp ho (r1.append r2) (by simpa using hc))
end
end Fz
set_option maxHeartbeats 4000000
namespace Fz
open PySem PySem.Spec L2
variable [aa0]
theorem aa1.rep {K:Fr'}{H:Hp}{vs:List V}{ds:List D}(r:aa1 K H vs ds): ∀k:Nat,aa1 K H (List.replicate k vs).flatten (ax9 ds k)
 |0=> .nil
 |k+1=>by
  rw[List.replicate_succ,List.flatten_cons,ax9,List.replicate_succ,List.flatten_cons]
  exact r.append (aa1.rep r k)
theorem bB1 (xs:List D)(k:Nat):(ax9 xs k).length=k*xs.length:=by
 unfold ax9
 rw[PyProof.Rows.lm_len_rep_flat]
theorem b7G (l:Addr)(items:Array Value)(n:Nat)(dd:Option Addr)(sl:Array (Option Value))(u:Tok):
  Meets (Builtin.«tuple.__mul__» ⟨[.ref l,.int 1 u],[]⟩) (fun _ R s=>s.heap.get? l=some { cls:= .type "tuple",dict:=dd,data:= .seq items n,slots:=sl }∧R (.ok (.ret (Value.ref l))) s):=
 .of_wp fun prog w A R s h=>by
  obtain⟨hp,g,d,tk,os⟩:=s
  obtain⟨hl,h⟩:=h
  have f1:=AutoSeq1.idx_int
  wp_walk using wpAny_loadPart' hl
  exact⟨_,rfl,h⟩
section
variable {X:Cx} {pins:List (Addr×Obj)} {s:Shared} {σ:St} {H:Hp} {Q:VK} {a:Addr} {v u:Value} {vs:List V} {k:Int}
theorem b7H (I:Inv X pins σ H s)(rx:RelV (.ref a) v)(ry:RelV (.int 1) u)(s1:SqT X.K H a vs)(q:Q (.ref a) H):
  wpAny (model X.prog X.w) X.A (binaryOp .Mult v u) (EP X pins σ Q) X.xe s:=by
 cases rx
 obtain⟨t,rfl⟩:=ry
 obtain⟨its,r,⟨⟨cls,dd,data,sl⟩,ho,hc,n,hd⟩,hs⟩:=I.tuple s1
 simp only at hc hd
 subst hc hd
 refine wpAny_binaryOp_repeat_ref (T:="tuple") (U:="int") (by decide) ⟨_,ho,rfl⟩ (fun s'=>typeIs_int s' 1 t) L2.noFill_tuple_mul F.fills_int_mul F.slot_int_rmul repeat_tuple F.slot_int_index.lookup
  (call_meets F.slot_int_rmul (typeIs_int s 1 t) F.entry_int_rmul (F.args_int_rmul_2 _ _) (int_rmul_tuple 1 t a its.toArray n dd sl)
   ⟨ho,rfl,⟨_,ho,rfl⟩,call_meets F.slot_tuple_mul ⟨_,ho,rfl⟩ F.entry_tuple_mul (F.args_tuple_mul_2 _ _) (b7G a its.toArray n dd sl t) ⟨ho,?_⟩⟩)
 exact⟨.ref a,H,I,rfl,q⟩
theorem b7N (I:Inv X pins σ H s)(rx:RelV (.ref a) v)(ry:RelV (.int k) u)(s1:SqL X.K H a vs)(h1:0≤k)(h2:k≤1000)(hz:vs.length≤1000)
  (q: ∀p,H p=none→Q (.ref p) (upd H p (.lst (List.replicate k.toNat vs).flatten))):
  wpAny (model X.prog X.w) X.A (binaryOp .Mult v u) (EP X pins σ Q) X.xe s:=by
 cases rx
 obtain⟨t,rfl⟩:=ry
 obtain⟨its,r,p1,z1⟩:=I.list s1
 have hle:its.length=vs.length:=r.length.symm
 obtain⟨⟨cls,dd,data,sl⟩,n,ho,hc,hdd,hd⟩:=p1
 simp only at hc hd
 subst hc hd
 have hm:its.length*k.toNat≤1000*1000:=Nat.mul_le_mul (by omega) (by omega)
 have hlen:its.toArray.size*k.toNat≤sizeLine:=by rw[List.size_toArray,sizeLine_eq];omega
 have c1: ¬its.toArray.size*k.toNat>(2^63-1)/8:=by rw[List.size_toArray];omega
 have c0: ¬(!Builtin.List.listFitsIndex k)=true:=by
  rw[fitsIndex_both (by omega) (by omega)]
  exact Bool.false_ne_true
 have c2: ¬Builtin.List.listTooLong (its.toArray.size*k.toNat)=true:=by
  rw[notLongL hlen]
  exact Bool.false_ne_true
 have e:List.foldl (fun x1 x2=>x1++x2) #[] (List.replicate (if its.toArray.isEmpty=true then 0 else k.toNat) its.toArray)=(List.replicate k.toNat its).flatten.toArray:=by
  rw[size_rep]
  cases its with
  |nil=>simp
  |cons b r'=>rw[if_neg (by simp)]
 refine wpAny_binaryOp_repeat_ref (T:="list") (U:="int") (by decide) ⟨_,ho,rfl⟩ (fun s'=>typeIs_int s' k t) noFill_list_mul F.fills_int_mul F.slot_int_rmul repeat_list F.slot_int_index.lookup
  (call_meets F.slot_int_rmul (typeIs_int s k t) F.entry_int_rmul (F.args_int_rmul_2 _ _) (lm_int_rmul_list_any k t a its.toArray n dd sl)
   ⟨ho,rfl,⟨_,ho,rfl⟩,call_meets F.slot_list_mul ⟨_,ho,rfl⟩ F.entry_list_mul (F.args_list_mul_2 _ _) (lm_list_mul_any a its.toArray n dd sl k t c0 c1 c2) ⟨ho,?_⟩⟩)
 rw[e]
 exact⟨.ref _,_,I.lnew (t':=s.toks) (r.rep k.toNat) (by rw[PyProof.Rows.lm_len_rep_flat,←hle,Nat.mul_comm,sizeLine_eq];omega),rfl,q _ I.fresh⟩
end
end Fz
namespace Fz
open PySem PySem.Spec L2
variable [aa0]
section
variable {X:Cx} {pins:List (Addr×Obj)} {σ:L2.St} {H:Hp} {s:Shared} {Q:VK} {O:List Addr}
mutual
theorem a6t: ∀d:D,keyOk d=true→(nk d).depth=d.depth
 | .none,_=>by simp[nk,NestedKey.depth,PyData.depth]
 | .bool _,_=>by simp[nk,NestedKey.depth,PyData.depth]
 | .int _,_=>by simp[nk,NestedKey.depth,PyData.depth]
 | .str _,_=>by simp[nk,NestedKey.depth,PyData.depth]
 | .tuple xs,h=>by simp only[nk,NestedKey.depth,PyData.depth];rw[bB2 xs (by simpa[keyOk]using h)]
 | .list _,h=>by simp[keyOk]at h
 | .dict _,h=>by simp[keyOk]at h
theorem bB2: ∀xs:List D,aq7 xs=true→NestedKey.depthAll (nks xs)=PyData.depthAll xs
 | [],_=>by simp[nks,NestedKey.depthAll,PyData.depthAll]
 |x::r,h=>by
  simp only[aq7,Bool.and_eq_true]at h
  simp only[nks,NestedKey.depthAll,PyData.depthAll]
  rw[a6t x h.1,bB2 r h.2]
end
mutual
theorem bB3: ∀a b:D,keyOk a=true→keyOk b=true→PyData.eqv a b=NestedKey.beq (nk a) (nk b)
 | .none,b,_,hb=>by cases b<;>first|rfl|(simp[keyOk]at hb;done)
 | .bool x,b,_,hb=>by
   cases b<;>first|(simp[keyOk]at hb;done)|rfl|(rename_i y;cases x<;>cases y<;>rfl)|(simp only[PyData.eqv,nk,NestedKey.beq];rw[Bool.beq_eq_decide_eq])
 | .int x,b,_,hb=>by
   cases b<;>first|(simp[keyOk]at hb;done)|rfl|(simp only[PyData.eqv,nk,NestedKey.beq];rw[Bool.beq_eq_decide_eq])
 | .str x,b,_,hb=>by
   cases b<;>first|(simp[keyOk]at hb;done)|rfl|(simp only[PyData.eqv,nk,NestedKey.beq];rw[Bool.beq_eq_decide_eq])
 | .tuple xs,b,ha,hb=>by
   cases b<;>first|(simp[keyOk]at hb;done)|rfl|skip
   rename_i ys
   simp only[PyData.eqv,nk,NestedKey.beq]
   exact bB4 xs ys (by simpa[keyOk]using ha) (by simpa[keyOk]using hb)
 | .list _,_,h,_=>by simp[keyOk]at h
 | .dict _,_,h,_=>by simp[keyOk]at h
theorem bB4: ∀xs ys:List D,aq7 xs=true→aq7 ys=true→PyData.eqvAll xs ys=NestedKey.beqAll (nks xs) (nks ys)
 | [],ys,_,_=>by cases ys<;>simp[nks,PyData.eqvAll,NestedKey.beqAll]
 |x::xs,ys,ha,hb=>by
  cases ys with
  |nil=>simp[nks,PyData.eqvAll,NestedKey.beqAll]
  |cons y ys=>
   simp only[aq7,Bool.and_eq_true]at ha hb
   simp only[nks,PyData.eqvAll,NestedKey.beqAll]
   rw[bB3 x y ha.1 hb.1,bB4 xs ys ha.2 hb.2]
end
theorem bB5 {a b:D}(ha:keyOk a=true)(hb:keyOk b=true):PyData.eqv a b=true↔nk a=nk b:=by
 rw[bB3 a b ha hb,←NestedKey.decide_eq,decide_eq_true_eq]
mutual
theorem a6u (I:Inv X pins σ H s): ∀(d:D) (v:V) (u:Value),Rp X.K H v d→RelV v u→keyOk d=true→NestedIs s.heap (nk d) u
 | .none,_,_,h,r,_=>by cases h;cases r;exact .none
 | .bool b,_,_,h,r,_=>by cases h;cases r;exact .bool rfl
 | .int i,_,_,h,r,_=>by cases h;obtain⟨t,rfl⟩:=r;exact .int i t
 | .str x,_,_,h,r,_=>by
   obtain⟨rfl,_⟩:=h.a1V
   obtain⟨t,rfl⟩:=r
   exact .text x t
 | .tuple xs,_,_,h,r,hk=>by
   cases h with
   |tup q ra _=>
    cases r
    obtain⟨its,rv,⟨o,ho,hc,n,hd⟩,_⟩:=I.tuple q.t
    exact .tup ho hc hd (by simpa using bB6 I xs _ _ ra rv (by simpa[keyOk]using hk))
 | .list _,_,_,_,_,hk=>by simp[keyOk]at hk
 | .dict _,_,_,_,_,hk=>by simp[keyOk]at hk
theorem bB6 (I:Inv X pins σ H s): ∀(ds:List D) (vs:List V) (us:List Value),aa1 X.K H vs ds→Vals vs us→aq7 ds=true→NestedAll s.heap (nks ds) us
 | [],_,_,h,r,_=>by cases h;cases r;exact .nil
 |d::ds,_,_,h,r,hk=>by
  cases h with
  |cons h1 h2=>
   cases r with
   |    cons r1 r2=>
        simp only[aq7,Bool.and_eq_true]at hk
        exact .cons (a6u I d _ _ h1 r1 hk.1) (bB6 I ds _ _ h2 r2 hk.2)
end
theorem aj4 (I:Inv X pins σ H s){a:Addr}{o:Obj}(h:H a=some (setAt a o)):s.heap.get? a=some o:=(show ObjOk X.prog X.w H s.heap a (setAt a o)from I.hok a _ h).1
theorem aK0 {P:Program}{w:World}{H:Hp}{h:Heap}{a:Addr}{o:Obj}(e:h.get? a=some o):ObjOk P w H h a (setAt a o):=
 ⟨e,⟨o,e⟩,fun h1 h2 p k=>k o p⟩
def PWr (X:Cx):Prop:=X.prog=aa0.P∧X.w=aa0.w
theorem ap3 {d:D}(h:ab8 d=true):keyOk d=true∧d.depth≤8∧ ∃xs,d= .tuple xs:=by
 cases d<;>first|(simp[ab8]at h;done)|skip
 simp only[ab8,Bool.and_eq_true,decide_eq_true_eq]at h
 exact⟨by simpa[keyOk]using h.1,h.2,_,rfl⟩
theorem aK1 (I:Inv X pins σ H s){d:D}{v:V}{a:Addr}(r:Rp X.K H v d)(e:RelV v (.ref a))(h:ab8 d=true):(nestedKind X.prog X.w).is s.heap (nk d) a:=by
 obtain⟨k1,k2,_⟩:=ap3 h
 exact⟨a6u I d v _ r e k1,by rw[a6t d k1];exact k2⟩
variable {a:Addr} {o:Obj} {xs:List (NestedKey×Addr×Value)} {vs:List V} {kvs:List (D×D)}
theorem al0.len (d:al0 X.K O H a o xs vs kvs):xs.length=kvs.length:=by
 have:=congrArg List.length d.ke
 simpa using this
theorem bB7 (I:Inv X pins σ H s): ∀ {xs:List (NestedKey×Addr×Value)} {kvs:List (D×D)},xs.map (·.1)=kvs.map (fun p=>nk p.1)→am3 kvs=true→aa1 X.K (hide H O) (xs.map fun x=>V.ref x.2.1) (kvs.map (·.1))→
  ∀x∈xs,(nestedKind X.prog X.w).is s.heap x.1 x.2.1
 | [],_,_,_,_=>fun x h=>by cases h
 |x::xs,[],e,_,_=>by simp at e
 |x::xs,p::kvs,e,hk,r=>by
  simp only[List.map_cons,List.cons.injEq]at e
  simp only[am3,List.all_cons,Bool.and_eq_true]at hk
  cases r with
  |cons r1 r2=>
   intro y hy
   rcases List.mem_cons.mp hy with rfl|hy
   ·    rw[e.1]
        exact aK1 I (r1.mono aa9) rfl hk.1
   ·exact bB7 I e.2 hk.2 r2 y hy
theorem al0.keyed (pw:PWr X)(d:al0 X.K O H a o xs vs kvs)(I:Inv X pins σ H s):s.heap.DictOfH (nestedKind X.prog X.w) a xs:=by
 obtain⟨es,ep,h1,h2,h3,h4⟩:=d.raw
 refine⟨o,es,ep,aj4 I d.at_,h1,h2,?_,bB7 I d.ke d.kd d.rk,h4⟩
 rw[pw.1,pw.2]
 exact h3
theorem a6v (hu:X.A.units+64<cLine):(nestedKind X.prog X.w).room X.A.in1:=by
 show X.A.units+1+8<cLine
 omega
theorem bC0 {P:Program}{w:World}{A:Around}{E:Value→Shared→Prop}{nm:String}{a b:Addr}{es es':Array DictEntry}{ep ep':Nat}{Q:Bool→Shared→Prop}(ha:(a==sysModules)=false)(hb:(b==sysModules)=false)
  (da:s.heap.DictRaw a es ep) (db:s.heap.DictRaw b es' ep') (h0:es'.size=0) (h:Q (decide (es.size=0)) s):wpAny (model P w) A (Builtin.Dict.samePairs nm a b) Q E s:=by
 obtain⟨oa,hoa,_,hda⟩:=da
 obtain⟨ob,hob,_,hdb⟩:=db
 unfold Builtin.Dict.samePairs Builtin.Dict.showsAll
 rw[if_neg (show ¬(a==sysModules)=true by rw[ha];exact Bool.false_ne_true),if_neg (show ¬(b==sysModules)=true by rw[hb];exact Bool.false_ne_true)]
 refine wpAny_bind (wpAny_pure (wpAny_bind (wpAny_pure ?_)))
 refine wpAny_bind (wpAny_dictEntries hoa hda ?_)
 dsimp only
 refine wpAny_bind (wpAny_dictEntries hob hdb ?_)
 by_cases hsz:es.size=0
 ·rw[if_neg (by rw[hsz,h0];simp)]
  refine wpAny_bind (wpAny_dictEpoch hoa hda ?_)
  refine wpAny_bind ?_
  rw[Std.Legacy.Range.forIn_eq_forIn_range']
  simp only[Std.Legacy.Range.size,Nat.sub_zero,Nat.add_sub_cancel,Nat.div_one]
  rw[hsz]
  refine wpAny_pure ?_
  refine wpAny_pure ?_
  simpa[hsz]using h
 ·rw[if_pos (by rw[h0];simpa using hsz)]
  refine wpAny_bind (wpAny_rule (wpAny_pure ?_))
  simpa[hsz]using h
theorem b7P {A:Around}{E:Value→Shared→Prop}{P:Program}{w:World}{a b:Addr}{es es':Array DictEntry}{ep ep':Nat}{Q:Value→Shared→Prop}(ha:(a==sysModules)=false)(hb:(b==sysModules)=false)
  (da:s.heap.DictRaw a es ep) (db:s.heap.DictRaw b es' ep') (h0:es'.size=0) (hu:A.units<cLine) (h:Q (.bool (decide (es.size=0))) s):wpAny (model P w) A (compareOp .Eq (.ref a) (.ref b)) Q E s:=by
 refine wpAny_richCompare_same_room (op:= .Eq) da.typeIs db.typeIs PySem.F.slot_dict_eq (wpAny_call_entry PySem.F.slot_dict_eq da.typeIs PySem.F.entry_dict_eq ?_ (PySem.F.args_dict_eq_2 _ _)) hu
 show wpAny _ _ (Builtin.Dict.dictSlotArgs "__eq__" ⟨[.ref a,.ref b],[]⟩>>=_) _ _ s
 refine wpAny_bind ?_
 unfold Builtin.Dict.dictSlotArgs
 refine wpAny_bind (PySem.wpAny_notOrdered_dict da.typeIs ?_)
 refine wpAny_pure ?_
 refine wpAny_bind (wpAny_isInstance (T:="dict") db.typeIs PySem.F.sub_dict_dict ?_)
 simp only[Bool.not_true,Bool.false_eq_true,if_false]
 refine wpAny_bind (wpAny_pure (wpAny_bind (wpAny_pure ?_)))
 refine wpAny_bind (bC0 ha hb da db h0 ?_)
 refine wpAny_pure ⟨_,rfl,⟨fun x=>(by cases x),?_⟩⟩
 simpa using h
theorem b7T {A:Around}{E:Value→Shared→Prop}{P:Program}{w:World}{a b:Addr}{es es':Array DictEntry}{ep ep':Nat}{Q:Value→Shared→Prop}(ha:(a==sysModules)=false)(hb:(b==sysModules)=false)
  (da:s.heap.DictRaw a es ep) (db:s.heap.DictRaw b es' ep') (h0:es'.size=0) (hu:A.units<cLine) (h:Q (.bool (!decide (es.size=0))) s):wpAny (model P w) A (compareOp .NotEq (.ref a) (.ref b)) Q E s:=by
 refine wpAny_richCompare_same_room (op:= .NotEq) da.typeIs db.typeIs PySem.F.slot_dict_ne (wpAny_call_entry PySem.F.slot_dict_ne da.typeIs PySem.F.entry_dict_ne ?_ (PySem.F.args_dict_ne_2 _ _)) hu
 show wpAny _ _ (Builtin.Dict.dictSlotArgs "__ne__" ⟨[.ref a,.ref b],[]⟩>>=_) _ _ s
 refine wpAny_bind ?_
 unfold Builtin.Dict.dictSlotArgs
 refine wpAny_bind (PySem.wpAny_notOrdered_dict da.typeIs ?_)
 refine wpAny_pure ?_
 refine wpAny_bind (wpAny_isInstance (T:="dict") db.typeIs PySem.F.sub_dict_dict ?_)
 simp only[Bool.not_true,Bool.false_eq_true,if_false]
 refine wpAny_bind (wpAny_pure (wpAny_bind (wpAny_pure ?_)))
 refine wpAny_bind (bC0 ha hb da db h0 ?_)
 refine wpAny_pure ⟨_,rfl,⟨fun x=>(by cases x),?_⟩⟩
 simpa using h
inductive ab7 (K:Fr')(H:Hp):List (NestedKey×Addr×Value)→List (D×D)→Prop
 |nil:ab7 K H [] []
 |cons {k v:D} {a:Addr} {u:Value} {z:V} {xs:List (NestedKey×Addr×Value)} {kvs:List (D×D)}:ab8 k=true→Rp K H (.ref a) k→RelV z u→Rp K H z v→ab7 K H xs kvs→ab7 K H ((nk k,a,u)::xs) ((k,v)::kvs)
theorem bC1 {K:Fr'}{H:Hp}: ∀ {xs:List (NestedKey×Addr×Value)} {kvs:List (D×D)} {vs:List V},xs.map (·.1)=kvs.map (fun p=>nk p.1)→am3 kvs=true→aa1 K H (xs.map fun x=>V.ref x.2.1) (kvs.map (·.1))→Vals vs (xs.map (·.2.2))→aa1 K H vs (kvs.map (·.2))→ab7 K H xs kvs
 | [],[],_,_,_,_,_,_=> .nil
 | [],_::_,_,e,_,_,_,_=>by simp at e
 |_::_,[],_,e,_,_,_,_=>by simp at e
 |(n,   a,u)::xs,(k,v)::kvs,vs,e,hk,r1,hv,r2=>by
  simp only[List.map_cons,List.cons.injEq]at e
  simp only[am3,List.all_cons,Bool.and_eq_true]at hk
  cases r1 with
  |cons r1 r1'=>
   cases r2 with
   |    cons r2 r2'=>
        cases hv with
        |cons hv hv'=>
         obtain⟨rfl,e⟩:=e
         exact .cons hk.1 r1 hv r2 (bC1 e hk.2 r1' hv' r2')
theorem bC3 {K:Fr'}{H:Hp}: ∀ {xs:List (NestedKey×Addr×Value)} {kvs:List (D×D)},ab7 K H xs kvs→ ∃vs,xs.map (·.1)=kvs.map (fun p=>nk p.1)∧am3 kvs=true∧aa1 K H (xs.map fun x=>V.ref x.2.1) (kvs.map (·.1))∧Vals vs (xs.map (·.2.2))∧aa1 K H vs (kvs.map (·.2))
 |_,_,.nil=>⟨[],rfl,rfl,.nil,.nil,.nil⟩
 |_,_,.cons hk r1 hv r2 t=>by
  obtain⟨vs,h1,h2,h3,h4,h5⟩:=bC3 t
  exact⟨_::vs,by simp[h1],by simp only[am3,List.all_cons,Bool.and_eq_true];exact⟨hk,h2⟩,.cons r1 h3,.cons hv h4,.cons r2 h5⟩
theorem al0.ents {K:Fr'}(d:al0 K O H a o xs vs kvs):ab7 K (hide H O) xs kvs:=bC1 d.ke d.kd d.rk d.hv d.rv
theorem a2d {k k':D}(h:ab8 k=true)(h':ab8 k'=true):decide (nk k=nk k')=PyData.eqv k k':=by
 have:=bB5 (ap3 h).1 (ap3 h').1
 cases e:PyData.eqv k k' with
 |true=>simpa using this.mp e
 |false=>
  refine decide_eq_false fun z=> ?_
  have:=this.mpr z
  rw[e]at this
  cases this
theorem ab7.has {K:Fr'}{H:Hp}{k:D}(hk:ab8 k=true): ∀ {xs:List (NestedKey×Addr×Value)} {kvs:List (D×D)},ab7 K H xs kvs→(atKey xs (nk k)).isSome=ag5 kvs k
 |_,_,.nil=>rfl
 |_,_,.cons (k:=k') (a:=a) (u:=u) (xs:=xs) (kvs:=kvs) hd _ _ _ t=>by
  have ih:=ab7.has hk t
  unfold atKey ag5 at ih ⊢
  rw[List.find?_cons,List.any_cons,a2d hd hk]
  cases PyData.eqv k' k with
  |true=>rfl
  |false=>simpa using ih
theorem ab7.get {K:Fr'}{H:Hp}{k d:D}(hk:ab8 k=true): ∀ {xs:List (NestedKey×Addr×Value)} {kvs:List (D×D)},ab7 K H xs kvs→ak5 kvs k=some d→ ∃p z,atKey xs (nk k)=some p∧RelV z p.2∧Rp K H z d
 |_,_,.nil,e=>by simp[ak5]at e
 |_,_,.cons (k:=k') (a:=a) (u:=u) (z:=z) (xs:=xs) (kvs:=kvs) hd _ r1 r2 t,e=>by
  unfold ak5 at e
  unfold atKey
  rw[List.find?_cons,a2d hd hk]
  dsimp only at e
  cases h:PyData.eqv k' k with
  |true=>
   rw[h,if_pos rfl]at e
   cases e
   exact⟨(a,u),z,rfl,r1,r2⟩
  |false=>
   rw[h,if_neg (by simp)]at e
   exact ab7.get hk t e
theorem ab7.app {K:Fr'}{H:Hp}{k v:D}{b:Addr}{u:Value}{z:V}(hk:ab8 k=true)(r1:Rp K H (.ref b) k)(rz:RelV z u)(r2:Rp K H z v): ∀ {xs:List (NestedKey×Addr×Value)} {kvs:List (D×D)},ab7 K H xs kvs→ab7 K H (xs++[(nk k,b,u)]) (kvs++[(k,v)])
 |_,_,.nil=> .cons hk r1 rz r2 .nil
 |_,_,.cons a b c d t=> .cons a b c d (ab7.app hk r1 rz r2 t)
theorem ab7.set {K:Fr'}{H:Hp}{k v:D}{u:Value}{z:V}(hk:ab8 k=true)(rz:RelV z u)(r2:Rp K H z v): ∀ {xs:List (NestedKey×Addr×Value)} {kvs:List (D×D)},ab7 K H xs kvs→ab7 K H (xs.map (putAt (nk k) u)) (kvs.map fun p=>if PyData.eqv p.1 k=true then(p.1,v)else p)
 |_,_,.nil=> .nil
 |_,_,.cons (k:=k') (a:=a) hd r1 r3 r4 t=>by
  have ih:=ab7.set hk rz r2 t
  simp only[List.map_cons]
  have hdec:=a2d hd hk
  by_cases h:nk k'=nk k
  ·have e:PyData.eqv k' k=true:=by rw[←hdec];simpa using h
   rw[if_pos e]
   simp only[putAt,if_pos h]
   exact .cons hd r1 rz r2 ih
  ·have e: ¬PyData.eqv k' k=true:=by rw[←hdec];simpa using h
   rw[if_neg e]
   simp only[putAt,if_neg h]
   exact .cons hd r1 r3 r4 ih
theorem ab7.put {K:Fr'}{H:Hp}{k v:D}{b:Addr}{u:Value}{z:V}(hk:ab8 k=true)(r1:Rp K H (.ref b) k)(rz:RelV z u)(r2:Rp K H z v){xs:List (NestedKey×Addr×Value)}{kvs:List (D×D)}(h:ab7 K H xs kvs):
  ab7 K H (storedH xs (nk k) b u) (ai9 kvs k v):=by
 unfold storedH ai9
 rw[h.has hk]
 split
 ·exact h.set hk rz r2
 ·exact h.app hk r1 rz r2
theorem ab7.length {K:Fr'}{H:Hp}: ∀ {xs:List (NestedKey×Addr×Value)} {kvs:List (D×D)},ab7 K H xs kvs→xs.length=kvs.length
 |_,_,.nil=>rfl
 |_,_,.cons _ _ _ _ t=>by simp[ab7.length t]
theorem ab7.mono {K:Fr'}{H H':Hp}(e:Ex H H'): ∀ {xs:List (NestedKey×Addr×Value)} {kvs:List (D×D)},ab7 K H xs kvs→ab7 K H' xs kvs
 |_,_,.nil=> .nil
 |_,_,.cons a b c d t=> .cons a (b.mono e) c (d.mono e) (ab7.mono e t)
end
end Fz
namespace Fz
open PySem PySem.Spec L2
variable [aa0]
section
variable {X:Cx}
theorem b7U:aj3 X (binaryOp .Sub) (o2 .sub):=by
 intro pins s σ H x y v u Q I rx ry h
 obtain⟨O,d1,d2,d,L,v1,v2,e,q⟩:=h
 cases d1<;>cases d2<;>try (cases e)
 rename_i i j
 cases v1.int;cases v2.int
 exact op_sub pins s σ H _ _ v u Q I rx ry ⟨i,j,rfl,rfl,q _ _ (Same.refl _) (.int _)⟩
theorem b7V:aj3 X (binaryOp .Mult) (o2 .mul):=by
 intro pins s σ H x y v u Q I rx ry h
 obtain⟨O,d1,d2,d,L,v1,v2,e,q⟩:=h
 cases d1<;>cases d2<;>try (cases e)
 ·rename_i i j
  obtain⟨hc,rfl⟩:=af1 e
  cases v1.int;cases v2.int
  refine op_mul pins s σ H _ _ v u Q I rx ry ⟨i,j,rfl,rfl,?_,q _ _ (Same.refl _) (.int _)⟩
  rcases hc with h|h
  ·exact .inl (by omega)
  ·exact .inr (by omega)
 ·rename_i a k
  obtain⟨⟨⟨h1,h2⟩,⟨h3,h4⟩,h5⟩,rfl⟩:=af1 e
  obtain⟨rfl,o1,z1⟩:=v1.str
  cases v2.int
  obtain⟨t,rfl⟩:=rx
  obtain⟨t',rfl⟩:=ry
  have hm:a.length*k.toNat≤1000*1000:=Nat.mul_le_mul h4 (by omega)
  have h6:PyData.strOk (aS1 a k.toNat)=true∧(aS1 a k.toNat).length≤sizeLine:=by
   unfold txB at h5
   simpa using h5
  have n1: ¬k<1:=by omega
  have n2: ¬(k==1||a.length==0)=true:=by
   simp only[Bool.or_eq_true,beq_iff_eq]
   omega
  have lo: ¬k< -(2^63:Int):=by omega
  have up: ¬k≥2^63:=by omega
  refine P.mul_str (by rw[decide_eq_false lo,decide_eq_false up];rfl) (fun _ _=> ?_) (fun _ _=> ?_) ?_
  ·have:(1000:Int)≤(2^63-1)/k:=by
        rw[Int.le_ediv_iff_mul_le (by omega)]
        omega
   omega
  ·show decide (a.length*k.toNat>sizeLine)=false
   rw[decide_eq_false_iff_not,sizeLine_eq]
   omega
  ·rw[if_neg n1,if_neg n2]
   exact⟨h6.2,.str (aS1 a k.toNat),H,I.tok _,⟨_,rfl⟩,q _ _ (Same.refl _) (.str _ h6.1 h6.2)⟩
 ·rename_i xs k
  obtain⟨⟨h1,h2,h3⟩,rfl⟩:=af1 e
  obtain⟨a,vs,rfl,s1,r1,z1⟩:=v1.list
  cases v2.int
  have n1:=r1.length
  have hm:k.toNat*xs.length≤1000*1000:=Nat.mul_le_mul (by omega) (by omega)
  exact b7N I rx ry s1 h1 h2 (by omega) fun p hp=>q _ _ (ab2 hp) (ao8 L hp (r1.rep _) (by rw[bB1,sizeLine_eq];omega))
 ·rename_i xs k
  obtain⟨⟨⟨h0,h1⟩,h2,h3⟩,rfl⟩:=af1 e
  obtain⟨a,vs,rfl,s1,r1,z1⟩:=v1.tuple
  cases v2.int
  have n1:=r1.length
  have hm:k.toNat*xs.length≤1000*1000:=Nat.mul_le_mul (by omega) (by omega)
  by_cases hk:k=1
  ·subst hk
   refine b7H I rx ry (af0 aa9 s1.t) (q _ _ (Same.refl _) ?_)
   have:ax9 xs (1:Int).toNat=xs:=by simp[ax9]
   rw[this]
   exact .tup s1 r1 z1
  ·refine b7A pins s σ H _ _ v u Q I rx ry ⟨a,k,vs,rfl,rfl,af0 aa9 s1.t,fun z=>h3 (by rw[z]at n1;exact List.eq_nil_of_length_eq_zero n1.symm),by omega,h1,by omega,fun p o hp ho=> ?_⟩
   exact q _ _ (ab2 hp) (av1 L hp ho (r1.rep _) (by rw[bB1,sizeLine_eq];omega))
theorem b7X:aj3 X (binaryOp .FloorDiv) (o2 .fdiv):=by
 intro pins s σ H x y v u Q I rx ry h
 obtain⟨O,d1,d2,d,L,v1,v2,e,q⟩:=h
 cases d1<;>cases d2<;>try (cases e)
 rename_i i j
 obtain⟨hc,rfl⟩:=af1 e
 cases v1.int;cases v2.int
 exact op_fdivW pins s σ H _ _ v u Q I rx ry ⟨i,j,rfl,rfl,wide_div (b:=64) hc.1 (by omega) (by decide) (by decide),q _ _ (Same.refl _) (.int _)⟩
theorem b7Y:aj3 X (binaryOp .Mod) (o2 .mod):=by
 intro pins s σ H x y v u Q I rx ry h
 obtain⟨O,d1,d2,d,L,v1,v2,e,q⟩:=h
 cases d1<;>cases d2<;>try (cases e)
 rename_i i j
 obtain⟨hc,rfl⟩:=af1 e
 cases v1.int;cases v2.int
 exact op_mod pins s σ H _ _ v u Q I rx ry ⟨i,j,rfl,rfl,hc,q _ _ (Same.refl _) (.int _)⟩
theorem b7Z:aj3 X (binaryOp .Pow) (o2 .pow):=by
 intro pins s σ H x y v u Q I rx ry h
 obtain⟨O,d1,d2,d,L,v1,v2,e,q⟩:=h
 cases d1<;>cases d2<;>try (cases e)
 rename_i i j
 obtain⟨hc,rfl⟩:=af1 e
 cases v1.int;cases v2.int
 exact op_pow pins s σ H _ _ v u Q I rx ry ⟨i,j,rfl,rfl,⟨hc.1,by have:=hc.2.1;omega,hc.2.2⟩,q _ _ (Same.refl _) (.int _)⟩
theorem ap4 {a b:D}(h:ac5 a b=true):min a.depth b.depth≤60∧noD a=true∧noD b=true:=by
 unfold ac5 at h
 simp only[Bool.and_eq_true,decide_eq_true_eq]at h
 exact h
theorem a2f {A:Around}{a b:D}(h:ac5 a b=true)(hu:A.units+64<cLine):A.units+min a.depth b.depth<cLine:=by
 have:=(ap4 h).1
 omega
theorem ar5.raw {pins:List (Addr×Obj)}{σ:L2.St}{H:Hp}{s:Shared}{O:List Addr}{a:Addr}{o:Obj}{es:Array DictEntry}{ep:Nat}{ks:List V}{kvs:List (D×D)}(d:ar5 X.K O H a o es ep ks kvs)(I:Inv X pins σ H s):s.heap.DictRaw a es ep:=
 ⟨o,aj4 I d.at_,d.ex,d.dt⟩
theorem bC5 (hu:X.A.units+64<cLine):aj3 X (compareOp .Eq) (o2 .eq):=by
 intro pins s σ H x y v u Q I rx ry h
 obtain⟨O,d1,d2,d,L,v1,v2,e,q⟩:=h
 have e':(∃kvs,d1= .dict kvs∧d2= .dict []∧d= .bool (kvs.isEmpty))∨(if ac5 d1 d2=true then R.ok (PyData.bool (PyData.eqv d1 d2))else R.no)= .ok d:=by
  cases d1<;>cases d2<;>first|exact .inr e|skip
  rename_i k1 k2
  cases k2 with
  |nil=>exact .inl ⟨k1,rfl,rfl,(R.ok.inj e).symm⟩
  |cons p r=>exact .inr e
 rcases e' with⟨kvs,rfl,rfl,rfl⟩|e'
 ·obtain⟨a,o,es,ep,ks,rfl,dv⟩:=v1.aF4
  obtain⟨b,o2,es2,ep2,ks2,rfl,dv2⟩:=v2.aF4
  cases rx
  cases ry
  have ra:=dv.raw I
  have rb:=dv2.raw I
  have l1:es.size=kvs.length:=dv.len
  have l2:es2.size=0:=dv2.len
  refine b7P dv.ns dv2.ns ra rb l2 (by omega) ?_
  rw[l1,show decide (kvs.length=0)=kvs.isEmpty from by cases kvs<;>simp]
  exact⟨.bl _,H,I,rfl,q _ _ (Same.refl _) (.bl _)⟩
 obtain⟨hc,rfl⟩:=af1 e'
 obtain⟨_,n1,n2⟩:=ap4 hc
 obtain⟨as,r1⟩:=Dp.reads I d1 x v (v1.rp.dp n1) rx
 obtain⟨bs,r2⟩:=Dp.reads I d2 y u (v2.rp.dp n2) ry
 exact SeqAt.compareEq_reads r1 r2 (v1.rp.lay n1) (v2.rp.lay n2) (a2f hc hu) ⟨.bl _,H,I,rfl,q _ _ (Same.refl _) (.bl _)⟩
theorem b71 (hu:X.A.units+64<cLine):aj3 X (compareOp .NotEq) (o2 .ne):=by
 intro pins s σ H x y v u Q I rx ry h
 obtain⟨O,d1,d2,d,L,v1,v2,e,q⟩:=h
 have e':(∃kvs,d1= .dict kvs∧d2= .dict []∧d= .bool (!kvs.isEmpty))∨(if ac5 d1 d2=true then R.ok (PyData.bool (!PyData.eqv d1 d2))else R.no)= .ok d:=by
  cases d1<;>cases d2<;>first|exact .inr e|skip
  rename_i k1 k2
  cases k2 with
  |nil=>exact .inl ⟨k1,rfl,rfl,(R.ok.inj e).symm⟩
  |cons p r=>exact .inr e
 rcases e' with⟨kvs,rfl,rfl,rfl⟩|e'
 ·obtain⟨a,o,es,ep,ks,rfl,dv⟩:=v1.aF4
  obtain⟨b,o2,es2,ep2,ks2,rfl,dv2⟩:=v2.aF4
  cases rx
  cases ry
  have ra:=dv.raw I
  have rb:=dv2.raw I
  have l1:es.size=kvs.length:=dv.len
  have l2:es2.size=0:=dv2.len
  refine b7T dv.ns dv2.ns ra rb l2 (by omega) ?_
  rw[l1,show decide (kvs.length=0)=kvs.isEmpty from by cases kvs<;>simp]
  exact⟨.bl _,H,I,rfl,q _ _ (Same.refl _) (.bl _)⟩
 obtain⟨hc,rfl⟩:=af1 e'
 obtain⟨_,n1,n2⟩:=ap4 hc
 obtain⟨as,r1⟩:=Dp.reads I d1 x v (v1.rp.dp n1) rx
 obtain⟨bs,r2⟩:=Dp.reads I d2 y u (v2.rp.dp n2) ry
 exact SeqAt.neOverData X.prog X.w X.A X.xe s v u d1 d2 as bs _ r1 r2 (v1.rp.lay n1) (v2.rp.lay n2) (a2f hc hu) ⟨.bl _,H,I,rfl,q _ _ (Same.refl _) (.bl _)⟩
theorem b72 (hu:X.A.units+64<cLine):aj3 X (compareOp .Lt) (o2 .lt):=by
 intro pins s σ H x y v u Q I rx ry h
 obtain⟨O,d1,d2,d,L,v1,v2,e,q⟩:=h
 cases d1<;>cases d2<;>try (cases e)
 ·rename_i i j
  cases v1.int;cases v2.int
  exact op_lt pins s σ H _ _ v u Q I rx ry ⟨i,j,rfl,rfl,q _ _ (Same.refl _) (.bl _)⟩
 ·rename_i i j
  obtain⟨rfl,_⟩:=v1.str
  obtain⟨rfl,_⟩:=v2.str
  exact op_lt_str pins s σ H _ _ v u Q I rx ry ⟨i,j,rfl,rfl,q _ _ (Same.refl _) (.bl _)⟩
 ·obtain⟨hc,rfl⟩:=af1 e
  obtain⟨_,n1,n2⟩:=ap4 hc.2
  obtain⟨as,r1⟩:=Dp.reads I _ x v (v1.rp.dp n1) rx
  obtain⟨bs,r2⟩:=Dp.reads I _ y u (v2.rp.dp n2) ry
  rw[lt_data _ _ hc.1]at q
  exact PySem.W.rcLt_alike _ _ X.A s v u as bs r1 r2 hc.1 (fun z=>nomatch z) (a2f hc.2 hu) X.prog X.w X.xe _ ⟨.bl _,H,I,rfl,q _ _ (Same.refl _) (.bl _)⟩
theorem b74: ∀(a b:D),PySem.W.alike a b=true→PySem.W.alike b a=true:=by
 intro a b h
 exact(PySem.W.alike_comm a b)▸h
theorem b75 (hu:X.A.units+64<cLine):aj3 X (compareOp .LtE) (o2 .le):=by
 intro pins s σ H x y v u Q I rx ry h
 obtain⟨O,d1,d2,d,L,v1,v2,e,q⟩:=h
 cases d1<;>cases d2<;>try (cases e)
 ·rename_i i j
  cases v1.int;cases v2.int
  exact op_le pins s σ H _ _ v u Q I rx ry ⟨i,j,rfl,rfl,q _ _ (Same.refl _) (.bl _)⟩
 ·obtain⟨hc,rfl⟩:=af1 e
  obtain⟨_,n1,n2⟩:=ap4 hc.2
  obtain⟨as,r1⟩:=Dp.reads I _ x v (v1.rp.dp n1) rx
  obtain⟨bs,r2⟩:=Dp.reads I _ y u (v2.rp.dp n2) ry
  rw[lt_data _ _ (b74 _ _ hc.1)]at q
  exact PySem.W.rcLe_alike _ _ X.A s v u as bs r1 r2 hc.1 (fun z=>nomatch z) (a2f hc.2 hu) X.prog X.w X.xe _ ⟨.bl _,H,I,rfl,q _ _ (Same.refl _) (.bl _)⟩
theorem b76:aj3 X (compareOp .Gt) (o2 .gt):=by
 intro pins s σ H x y v u Q I rx ry h
 obtain⟨O,d1,d2,d,L,v1,v2,e,q⟩:=h
 cases d1<;>cases d2<;>try (cases e)
 rename_i i j
 cases v1.int;cases v2.int
 exact op_gt pins s σ H _ _ v u Q I rx ry ⟨i,j,rfl,rfl,q _ _ (Same.refl _) (.bl _)⟩
theorem b77:aj3 X (compareOp .GtE) (o2 .ge):=by
 intro pins s σ H x y v u Q I rx ry h
 obtain⟨O,d1,d2,d,L,v1,v2,e,q⟩:=h
 cases d1<;>cases d2<;>try (cases e)
 rename_i i j
 cases v1.int;cases v2.int
 exact op_ge pins s σ H _ _ v u Q I rx ry ⟨i,j,rfl,rfl,q _ _ (Same.refl _) (.bl _)⟩
theorem a2j {A:Around}{a:D}{ys:List D}(h:ac5 a (.list ys)=true∨ac5 a (.tuple ys)=true)(hu:A.units+64<cLine):A.units+1+min (PyData.depthAll ys) a.depth<cLine:=by
 have z:min a.depth (PyData.depthAll ys)≤60:=by
  rcases h with h|h
  ·have:=(ap4 h).1
   simp only[PyData.depth]at this
   omega
  ·have:=(ap4 h).1
   simp only[PyData.depth]at this
   omega
 omega
theorem a6w {d:D}(h:ai7 d=true): ∃j:Key,d=kD j:=by
 cases d<;>first|(cases h;done)|exact⟨.inl _,rfl⟩|exact⟨.inr _,rfl⟩
theorem aS8 (i j:Key):PyData.eqv (kD i) (kD j)=decide (i=j):=by
 cases i<;>cases j<;>(rw[Bool.eq_iff_iff];simp[kD,PyData.eqv])
theorem a6x {j:Key}: ∀ {xs:List (Key×Value)} {kvs:List (D×D)},xs.map (fun x=>kD x.1)=kvs.map (·.1)→ag5 kvs (kD j)=(valueAt xs j).isSome
 | [],[],_=>rfl
 | [],_::_,h=>by simp at h
 |_::_,[],h=>by simp at h
 |(n,u)::xs,(k,x)::kvs,h=>by
  simp only[List.map_cons,List.cons.injEq]at h
  obtain⟨rfl,h⟩:=h
  have ih:=a6x (j:=j) h
  unfold ag5 at ih ⊢
  rw[List.any_cons,ih,aS8]
  unfold valueAt
  rw[List.find?_cons]
  by_cases e:n=j
  ·simp[e]
  ·simp[e]
theorem Vd.flatV {K:Fr'}{O:List Addr}{H:Hp}{x:V}{j:Key}(h:Vd K O H x (kD j)):x=kV j:=by
 cases j with
 |inl i=>exact Vd.int h
 |inr y=>exact(Vd.str h).1
theorem b78 (pw:PWr X)(hu:X.A.units+64<cLine):aj3 X (compareOp .In) (o2 .mem):=by
 intro pins s σ H x y v u Q I rx ry h
 obtain⟨O,d1,d2,d,L,v1,v2,e,q⟩:=h
 cases d2 with
 |list ys=>
  have e':(if ac5 d1 (.list ys)=true then R.ok (PyData.bool (memD d1 ys))else R.no)= .ok d:=by cases d1<;>exact e
  obtain⟨hc,rfl⟩:=af1 e'
  obtain⟨_,n1,n2⟩:=ap4 hc
  obtain⟨as,r1⟩:=Dp.reads I d1 x v (v1.rp.dp n1) rx
  obtain⟨bs,r2⟩:=Dp.reads I _ y u (v2.rp.dp n2) ry
  exact SeqAt.in_list_reads r2 r1 (v2.rp.lay n2) (v1.rp.lay n1) (a2j (.inl hc) hu) ⟨.bl _,H,I,rfl,q _ _ (Same.refl _) (.bl _)⟩
 |tuple ys=>
  have e':(if ac5 d1 (.tuple ys)=true then R.ok (PyData.bool (memD d1 ys))else R.no)= .ok d:=by cases d1<;>exact e
  obtain⟨hc,rfl⟩:=af1 e'
  obtain⟨_,n1,n2⟩:=ap4 hc
  obtain⟨as,r1⟩:=Dp.reads I d1 x v (v1.rp.dp n1) rx
  obtain⟨bs,r2⟩:=Dp.reads I _ y u (v2.rp.dp n2) ry
  exact SeqAt.in_tuple_reads r2 r1 (v2.rp.lay n2) (v1.rp.lay n1) (a2j (.inr hc) hu) ⟨.bl _,H,I,rfl,q _ _ (Same.refl _) (.bl _)⟩
 |str b=>
  cases d1<;>try (cases e)
  rename_i a
  obtain⟨hc,rfl⟩:=af1 e
  obtain⟨rfl,_⟩:=v1.str
  obtain⟨rfl,_⟩:=v2.str
  have ea:a=⟨#[a.cps.getD 0 0]⟩:=by
   obtain⟨⟨l⟩⟩:=a
   have hl:l.length=1:=hc
   match l,hl with
   | [c],_=>rfl
  refine op_in_sign pins s σ H _ _ v u Q I rx ry ⟨a.cps.getD 0 0,b,by rw[←ea],rfl,q _ _ (Same.refl _) (.bl _)⟩
 |none=>cases d1<;>cases e
 |bool _=>cases d1<;>cases e
 |int _=>cases d1<;>cases e
 |dict kvs=>
  have e':(if ab8 d1=true∧isI kvs=false then R.ok (PyData.bool (ag5 kvs d1))else if ai7 d1=true∧aJ3 kvs=true then R.ok (PyData.bool (ag5 kvs d1))else R.no)= .ok d:=by cases d1<;>exact e
  by_cases hkI:ab8 d1=true∧isI kvs=false
  case neg=>
   rw[if_neg hkI]at e'
   obtain⟨⟨hk,hF⟩,rfl⟩:=af1 e'
   obtain⟨j,rfl⟩:=a6w hk
   obtain rfl:=v1.flatV
   obtain⟨a,o,xs,vs,rfl,hat,ns,raw,ke,hv,rv⟩:=Vd.bA5 hF v2
   cases ry
   have hm:s.heap.DictOf (mixKind X.prog X.w) a xs:=Heap.dictOf_iff.mpr ⟨o,aj4 I hat,by rw[pw.1,pw.2];exact raw⟩
   refine wpAny_in_of (kV_is rx) ns hm.mapOf ?_
   rw[←a6x ke]
   exact⟨.bl _,H,I.tok _,rfl,q _ _ (Same.refl _) (.bl _)⟩
  rw[if_pos hkI]at e'
  obtain⟨hk,hI⟩:=hkI
  cases e'
  obtain⟨_,_,ys,ey⟩:=ap3 hk
  have rk:=v1.rp
  obtain⟨b,z1,rfl⟩: ∃b,∃_:True,x= .ref b:=by
   subst ey
   obtain⟨b,_,rfl,_⟩:=v1.tuple
   exact⟨b,trivial,rfl⟩
  obtain⟨a,o,xs,vs,rfl,dv⟩:=Vd.dict hI v2
  cases rx
  cases ry
  refine wpAny_in_heap (a6v hu) (aK1 I rk rfl hk) dv.ns (dv.keyed pw I) ?_
  rw[dv.ents.has hk]
  exact⟨.bl _,H,I.tok _,rfl,q _ _ (Same.refl _) (.bl _)⟩
theorem b79 (pw:PWr X)(hu:X.A.units+64<cLine):aj3 X (compareOp .NotIn) (o2 .nmem):=by
 intro pins s σ H x y v u Q I rx ry h
 obtain⟨O,d1,d2,d,L,v1,v2,e,q⟩:=h
 cases d2 with
 |list ys=>
  have e':(if ac5 d1 (.list ys)=true then R.ok (PyData.bool (!memD d1 ys))else R.no)= .ok d:=by cases d1<;>exact e
  obtain⟨hc,rfl⟩:=af1 e'
  obtain⟨_,n1,n2⟩:=ap4 hc
  obtain⟨as,r1⟩:=Dp.reads I d1 x v (v1.rp.dp n1) rx
  obtain⟨bs,r2⟩:=Dp.reads I _ y u (v2.rp.dp n2) ry
  exact SeqAt.notIn_list_reads r2 r1 (v2.rp.lay n2) (v1.rp.lay n1) (a2j (.inl hc) hu) ⟨.bl _,H,I,rfl,q _ _ (Same.refl _) (.bl _)⟩
 |tuple ys=>
  have e':(if ac5 d1 (.tuple ys)=true then R.ok (PyData.bool (!memD d1 ys))else R.no)= .ok d:=by cases d1<;>exact e
  obtain⟨hc,rfl⟩:=af1 e'
  obtain⟨_,n1,n2⟩:=ap4 hc
  obtain⟨as,r1⟩:=Dp.reads I d1 x v (v1.rp.dp n1) rx
  obtain⟨bs,r2⟩:=Dp.reads I _ y u (v2.rp.dp n2) ry
  exact SeqAt.notIn_tuple_reads r2 r1 (v2.rp.lay n2) (v1.rp.lay n1) (a2j (.inr hc) hu) ⟨.bl _,H,I,rfl,q _ _ (Same.refl _) (.bl _)⟩
 |none=>cases d1<;>cases e
 |str _=>cases d1<;>cases e
 |bool _=>cases d1<;>cases e
 |int _=>cases d1<;>cases e
 |dict kvs=>
  have e':(if ab8 d1=true∧isI kvs=false then R.ok (PyData.bool (!ag5 kvs d1))else if ai7 d1=true∧aJ3 kvs=true then R.ok (PyData.bool (!ag5 kvs d1))else R.no)= .ok d:=by cases d1<;>exact e
  by_cases hkI:ab8 d1=true∧isI kvs=false
  case neg=>
   rw[if_neg hkI]at e'
   obtain⟨⟨hk,hF⟩,rfl⟩:=af1 e'
   obtain⟨j,rfl⟩:=a6w hk
   obtain rfl:=v1.flatV
   obtain⟨a,o,xs,vs,rfl,hat,ns,raw,ke,hv,rv⟩:=Vd.bA5 hF v2
   cases ry
   have hm:s.heap.DictOf (mixKind X.prog X.w) a xs:=Heap.dictOf_iff.mpr ⟨o,aj4 I hat,by rw[pw.1,pw.2];exact raw⟩
   refine wpAny_notIn_of (kV_is rx) ns hm.mapOf ?_
   rw[←a6x ke]
   exact⟨.bl _,H,I.tok _,rfl,q _ _ (Same.refl _) (.bl _)⟩
  rw[if_pos hkI]at e'
  obtain⟨hk,hI⟩:=hkI
  cases e'
  obtain⟨_,_,ys,ey⟩:=ap3 hk
  have rk:=v1.rp
  obtain⟨b,z1,rfl⟩: ∃b,∃_:True,x= .ref b:=by
   subst ey
   obtain⟨b,_,rfl,_⟩:=v1.tuple
   exact⟨b,trivial,rfl⟩
  obtain⟨a,o,xs,vs,rfl,dv⟩:=Vd.dict hI v2
  cases rx
  cases ry
  refine PyProof.Rows.wpAny_notIn_heap (a6v hu) (aK1 I rk rfl hk) dv.ns (dv.keyed pw I) ?_
  rw[dv.ents.has hk]
  exact⟨.bl _,H,I.tok _,rfl,q _ _ (Same.refl _) (.bl _)⟩
theorem b8b:aj3 X (compareOp .Is) (o2 .iss):=by
 intro pins s σ H x y v u Q I rx ry h
 obtain⟨O,d1,d2,d,L,v1,v2,e,q⟩:=h
 cases d2 with
 |none=>
  cases v2.none
  have e':R.ok (PyData.bool (isNon d1))= .ok d:=by cases d1<;>exact e
  cases e'
  refine op_isN pins s σ H _ _ v u Q I rx ry ⟨rfl,?_⟩
  have k:decide (x=V.non)=(isNon d1):=by
   have r:=v1.rp
   cases r<;>simp[isNon]
  rw[k]
  exact q _ _ (Same.refl _) (.bl _)
 |bool b=>
  cases d1<;>try (cases e)
  cases v1.bool;cases v2.bool
  exact op_isBl pins s σ H _ _ v u Q I rx ry ⟨_,_,rfl,rfl,q _ _ (Same.refl _) (.bl _)⟩
 |str _=>cases d1<;>cases e
 |int _=>cases d1<;>cases e
 |dict _=>cases d1<;>cases e
 |list _=>cases d1<;>cases e
 |tuple _=>cases d1<;>cases e
theorem b8c:aj3 X (compareOp .IsNot) (o2 .isn):=by
 intro pins s σ H x y v u Q I rx ry h
 obtain⟨O,d1,d2,d,L,v1,v2,e,q⟩:=h
 cases d2 with
 |none=>
  cases v2.none
  have e':R.ok (PyData.bool (!isNon d1))= .ok d:=by cases d1<;>exact e
  cases e'
  refine op_notN pins s σ H _ _ v u Q I rx ry ⟨rfl,?_⟩
  have k:(!decide (x=V.non))=(!isNon d1):=by
   have r:=v1.rp
   cases r<;>simp[isNon]
  rw[k]
  exact q _ _ (Same.refl _) (.bl _)
 |bool b=>
  cases d1<;>try (cases e)
  cases v1.bool;cases v2.bool
  exact op_notBl pins s σ H _ _ v u Q I rx ry ⟨_,_,rfl,rfl,q _ _ (Same.refl _) (.bl _)⟩
 |str _=>cases d1<;>cases e
 |int _=>cases d1<;>cases e
 |dict _=>cases d1<;>cases e
 |list _=>cases d1<;>cases e
 |tuple _=>cases d1<;>cases e
theorem a2k {α:Type}{o:Option α}{a:α}(h:ofO o= .ok a):o=some a:=by
 cases o with
 |none=>cases h
 |some b=>cases h;rfl
theorem bC8 {K:Fr'}{H:Hp}{vs:List V}{ds:List D}{i:Int}{d:D}(r:aa1 K H vs ds)(e:atI ds i=some d): ∃v,atI vs i=some v∧Rp K H v d:=by
 unfold atI at e ⊢
 rw[r.length]
 cases k:ixN ds.length i with
 |none=>rw[k]at e;cases e
 |some j=>
  rw[k]at e
  exact r.get e
theorem bD0 {K:Fr'}{H:Hp}{i:Key}{d:D}: ∀ {xs:List (Key×Value)} {kvs:List (D×D)} {vs:List V},xs.map (fun x=>kD x.1)=kvs.map (·.1)→Vals vs (xs.map (·.2))→aa1 K H vs (kvs.map (·.2))→ak5 kvs (kD i)=some d→ ∃u z,valueAt xs i=some u∧RelV z u∧Rp K H z d
 | [],[],_,_,_,_,e=>by simp[ak5]at e
 | [],_::_,_,ke,_,_,_=>by simp at ke
 |_::_,[],_,ke,_,_,_=>by simp at ke
 |(n,   u)::xs,(k,x)::kvs,_,ke,hv,rv,e=>by
  simp only[List.map_cons,List.cons.injEq]at ke
  obtain⟨rfl,ke⟩:=ke
  cases hv with
  |cons h1 h2=>
   cases rv with
   |    cons r1 r2=>
        unfold ak5 at e
        by_cases hn:n=i
        ·subst hn
         rw[if_pos (by simp[aS8])]at e
         cases e
         exact⟨u,_,by simp[valueAt],h1,r1⟩
        ·rw[if_neg (by simpa[aS8]using hn)]at e
         obtain⟨u',z,g1,g2,g3⟩:=bD0 ke h2 r2 e
         refine⟨u',z,?_,g2,g3⟩
         unfold valueAt at g1 ⊢
         rw[List.find?_cons,show decide (n=i)=false from decide_eq_false hn]
         exact g1
theorem b8h (pw:PWr X)(hu:X.A.units+64<cLine):IxR X (r2 X.K (o2 .ix)):=by
 intro value slice pins s σ H x y v u Q I rx ry h hs
 obtain⟨O,d1,d2,d,L,v1,v2,e,q⟩:=h
 by_cases hdic: ∃kvs,d1= .dict kvs
 ·obtain⟨kvs,rfl⟩:=hdic
  by_cases hint: ∃j:Key,d2=kD j
  ·obtain⟨j,rfl⟩:=hint
   have e':(if isI kvs=true then ofO (ak5 kvs (kD j))else R.no)= .ok d:=by cases j<;>exact e
   by_cases hI:isI kvs=true
   ·    rw[if_pos hI]at e'
        obtain rfl:=v2.flatV
        obtain⟨a,o,xs,vs,rfl,hat,ns,raw,ke,hv,rv⟩:=Vd.bA4 hI v1
        cases rx
        obtain⟨w',z,hu',rz,rp⟩:=bD0 ke hv rv (a2k e')
        have hm:s.heap.DictOf (mixKind X.prog X.w) a xs:=Heap.dictOf_iff.mpr ⟨o,aj4 I hat,by rw[pw.1,pw.2];exact raw⟩
        unfold PyProof.Rows.subscriptTail
        refine wpAny_bind ?_
        rw[getitemInPython_of_ne hm.typeIs.not_modules]
        refine wpAny_bind (wpAny_specialOf hm.typeIs PySem.F.slot_dict_getitem.lookup ?_)
        have fin:wpAny (model X.prog X.w) X.A (subscripted slice false (.ref a) u) (fun r s₃=>wpAny (model X.prog X.w) X.A (letTemporaryGo value (.ref a) r>>=fun _=>pure r) (EP X pins σ Q) X.xe s₃) X.xe s:=by
         rw[hs]
         exact wpAny_operating (wpAny_getItem_of (kV_is ry) hm.mapOf hu' (wpAny_bind (wpAny_letTemporaryGo (wpAny_pure ⟨z,H,I.tok _,rz,q _ _ (Same.refl _) rp⟩))))
        first
         |exact wpAny_pure (wpAny_bind fin)
         |exact wpAny_bind (wpAny_pure (wpAny_bind fin))
         |exact wpAny_bind fin
   ·    rw[if_neg hI]at e'
        cases e'
  have e':(if ab8 d2=true∧isI kvs=false then ofO (ak5 kvs d2)else R.no)= .ok d:=by cases d2<;>first|exact e|exact absurd ⟨.inl _,rfl⟩ hint|exact absurd ⟨.inr _,rfl⟩ hint
  by_cases hk:ab8 d2=true∧isI kvs=false
  ·rw[if_pos hk]at e'
   obtain⟨hk,hI⟩:=hk
   obtain⟨_,_,ys,ey⟩:=ap3 hk
   have rk:=v2.rp
   obtain⟨b,z1,rfl⟩: ∃b,∃_:True,y= .ref b:=by
        subst ey
        obtain⟨b,_,rfl,_⟩:=v2.tuple
        exact⟨b,trivial,rfl⟩
   obtain⟨a,o,xs,vs,rfl,dv⟩:=Vd.dict hI v1
   cases rx
   cases ry
   obtain⟨p,z,hp,rz,rp⟩:=dv.ents.get hk (a2k e')
   have hm:=dv.keyed pw I
   unfold PyProof.Rows.subscriptTail
   refine wpAny_bind ?_
   rw[getitemInPython_of_ne hm.typeIs.not_modules]
   refine wpAny_bind (wpAny_specialOf hm.typeIs PySem.F.slot_dict_getitem.lookup ?_)
   have fin:wpAny (model X.prog X.w) X.A (subscripted slice false (.ref a) (.ref b)) (fun r s₃=>wpAny (model X.prog X.w) X.A (letTemporaryGo value (.ref a) r>>=fun _=>pure r) (EP X pins σ Q) X.xe s₃) X.xe s:=by
        rw[hs]
        exact wpAny_operating (wpAny_getItem_heap (a6v hu) (aK1 I rk rfl hk) hm hp (wpAny_bind (wpAny_letTemporaryGo (wpAny_pure ⟨z,H,I.tok _,rz,q _ _ (Same.refl _) rp⟩))))
   first
        |exact wpAny_pure (wpAny_bind fin)
        |exact wpAny_bind (wpAny_pure (wpAny_bind fin))
        |exact wpAny_bind fin
  ·rw[if_neg hk]at e'
   cases e'
 cases d1<;>cases d2<;>try (first|(exact absurd ⟨_,rfl⟩ hdic)|(cases e))
 ·rename_i z i
  cases v2.int
  obtain⟨rfl,ok,sz⟩:=v1.str
  cases k:atI z.cps.toList i with
  |none=>
   have e':(ofO (atI z.cps.toList i)).bind (fun c=>R.ok (PyData.str ⟨#[c]⟩))= .ok d:=e
   rw[k]at e';cases e'
  |some c=>
   have e':(ofO (atI z.cps.toList i)).bind (fun c=>R.ok (PyData.str ⟨#[c]⟩))= .ok d:=e
   rw[k]at e'
   cases e'
   refine ix_str value slice pins s σ H _ _ v u Q I rx ry ⟨z,i,c,rfl,rfl,sz,k,q _ _ (Same.refl _) (.str _ ?_ ?_)⟩ hs
   ·    have hm:c∈z.cps.toList:=by
         unfold atI at k
         cases k2:ixN z.cps.toList.length i with
         |none=>rw[k2]at k;cases k
         |some j=>rw[k2]at k;exact List.mem_of_getElem? k
        have:=(Array.all_eq_true_iff_forall_mem.mp ok) c (Array.mem_toList_iff.mp hm)
        simpa[PyData.strOk]using this
   ·    show(#[c]:Array Nat).size≤sizeLine
        rw[sizeLine_eq];simp
 ·rename_i xs i
  cases v2.int
  obtain⟨a,vs,rfl,s1,r1,z1⟩:=v1.list
  obtain⟨w,hw,rr⟩:=bC8 r1 (a2k e)
  exact ix_list value slice pins s σ H _ _ v u Q I rx ry ⟨a,vs,i,w,rfl,rfl,s1,hw,q _ _ (Same.refl _) rr⟩ hs
 ·rename_i xs i
  cases v2.int
  obtain⟨a,vs,rfl,s1,r1,z1⟩:=v1.tuple
  obtain⟨w,hw,rr⟩:=bC8 r1 (a2k e)
  exact ix_tup value slice pins s σ H _ _ v u Q I rx ry ⟨a,vs,i,w,rfl,rfl,af0 aa9 s1.t,hw,q _ _ (Same.refl _) rr⟩ hs
theorem bD1 {K:Fr'}{H:Hp}{vs:List V}{ds:List D}(r:aa1 K H vs ds)(lo hi:Option Int):aa1 K H (cutV vs lo hi) (cutD ds lo hi):=by
 unfold cutV cutD
 rw[r.length]
 exact(r.drop _).take _
theorem bD3 {α:Type}(xs:List α)(lo hi:Option Int):(cutD xs lo hi).length≤xs.length:=by
 unfold cutD
 rw[List.length_take,List.length_drop]
 omega
def rSl (K:Fr'):V→Option Int→Option Int→Hp→VK→Prop:=fun x lo hi H Q=> ∃O d1 d,ab3 H O∧Vd K O H x d1∧au5 d1 lo hi= .ok d∧ ∀v H',Same H H'→Rp K (hide H' O) v d→Q v H'
theorem bD4:SlR X (rSl X.K):=by
 intro pins s σ H x v vl vu lo hi sl Q I rx hs pl pu h
 obtain⟨O,d1,d,L,v1,e,q⟩:=h
 cases d1<;>try (cases e;done)
 ·rename_i z
  obtain⟨rfl,ok,sz⟩:=v1.str
  have e':(if txB (L2.cutS z lo hi)=true then R.ok (PyData.str (L2.cutS z lo hi))else R.no)= .ok d:=e
  obtain⟨hc,rfl⟩:=af1 e'
  simp only[txB,Bool.and_eq_true,decide_eq_true_eq]at hc
  exact sl_str pins s σ H _ v vl vu lo hi sl Q I rx hs pl pu ⟨z,rfl,sz,q _ _ (Same.refl _) (.str _ hc.1 hc.2)⟩
 ·cases e
  rename_i xs
  obtain⟨a,vs,rfl,s1,r1,z1⟩:=v1.list
  exact sl_list pins s σ H _ v vl vu lo hi sl Q I rx hs pl pu ⟨a,vs,rfl,s1,fun p hp=>q _ _ (ab2 hp) (ao8 L hp (bD1 r1 lo hi) (Nat.le_trans (bD3 _ _ _) z1))⟩
 ·cases e
  rename_i xs
  obtain⟨a,vs,rfl,s1,r1,z1⟩:=v1.tuple
  have n1:=r1.length
  refine b7v pins s σ H _ v vl vu lo hi sl Q I rx hs pl pu ⟨a,vs,rfl,af0 aa9 s1.t,fun hw=>q _ _ (Same.refl _) ?_,fun _ p o hp ho=>q _ _ (ab2 hp) (av1 L hp ho (bD1 r1 lo hi) (Nat.le_trans (bD3 _ _ _) z1))⟩
  have e:cutD xs lo hi=xs:=by
   unfold cutD
   rw[←n1,hw.1,hw.2,n1]
   simp
  rw[e]
  exact .tup s1 r1 z1
theorem b8i:ao0 X (.builtin "len") (o1 .len):=by
 intro pins s σ H xs us Q I r h
 obtain⟨O,x,d1,d,rfl,L,v1,e,q⟩:=h
 cases d1<;>try (cases e)
 ·obtain⟨rfl,ok,z⟩:=v1.str
  exact call_len pins s σ H _ us Q I r ⟨_,_,rfl,⟨z,rfl⟩,q _ _ (Same.refl _) (.int _)⟩
 ·obtain⟨a,vs,rfl,s1,r1,z1⟩:=v1.list
  exact call_len pins s σ H _ us Q I r ⟨_,_,rfl,.inl ⟨_,s1,r1.length.symm⟩,q _ _ (Same.refl _) (.int _)⟩
 ·obtain⟨a,vs,rfl,s1,r1,z1⟩:=v1.tuple
  exact call_len pins s σ H _ us Q I r ⟨_,_,rfl,.inr ⟨_,af0 aa9 s1.t,r1.length.symm⟩,q _ _ (Same.refl _) (.int _)⟩
theorem a6y {K:Fr'}{H:Hp}: ∀ {vs:List V} {ds:List D} {bs:List Bool},aa1 K H vs ds→boolsOf ds=some bs→vs=bs.map V.bl
 |_,_,_,.nil,e=>by cases e;rfl
 |_,_,bs,.cons (d:=d) (ds:=ds) h1 h2,e=>by
  cases d<;>try (cases e)
  rename_i b
  cases h1
  have e':(boolsOf ds).map (b:: ·)=some bs:=e
  cases k:boolsOf ds with
  |none=>rw[k]at e';cases e'
  |some cs=>
   rw[k]at e'
   cases e'
   rw[a6y h2 k];rfl
theorem a2l {K:Fr'}{H:Hp}: ∀ {vs:List V} {ds:List D} {bs:List Int},aa1 K H vs ds→intsOf ds=some bs→vs=bs.map V.int
 |_,_,_,.nil,e=>by cases e;rfl
 |_,_,bs,.cons (d:=d) (ds:=ds) h1 h2,e=>by
  cases d<;>try (cases e)
  rename_i b
  cases h1
  have e':(intsOf ds).map (b:: ·)=some bs:=e
  cases k:intsOf ds with
  |none=>rw[k]at e';cases e'
  |some cs=>
   rw[k]at e'
   cases e'
   rw[a2l h2 k];rfl
theorem b8k (hc:X.calm=true):ao0 X (.builtin "all") (o1 .all):=by
 intro pins s σ H xs us Q I r h
 obtain⟨O,x,d1,d,rfl,L,v1,e,q⟩:=h
 cases d1<;>try (cases e)
 rename_i ds
 obtain⟨a,vs,rfl,s1,r1,z1⟩:=v1.list
 have e':(ofO (boolsOf ds)).bind (fun bs=>R.ok (PyData.bool (bs.all id)))= .ok d:=e
 cases k:boolsOf ds with
 |none=>rw[k]at e';cases e'
 |some bs=>
  rw[k]at e'
  cases e'
  rw[a6y r1 k]at s1
  exact cr_all hc pins s σ H _ us Q I r ⟨a,bs,rfl,s1,q _ _ (Same.refl _) (.bl _)⟩
theorem b8l (hc:X.calm=true):ao0 X (.builtin "any") (o1 .any):=by
 intro pins s σ H xs us Q I r h
 obtain⟨O,x,d1,d,rfl,L,v1,e,q⟩:=h
 cases d1<;>try (cases e)
 rename_i ds
 obtain⟨a,vs,rfl,s1,r1,z1⟩:=v1.list
 have e':(ofO (boolsOf ds)).bind (fun bs=>R.ok (PyData.bool (bs.any id)))= .ok d:=e
 cases k:boolsOf ds with
 |none=>rw[k]at e';cases e'
 |some bs=>
  rw[k]at e'
  cases e'
  rw[a6y r1 k]at s1
  exact cr_any hc pins s σ H _ us Q I r ⟨a,bs,rfl,s1,q _ _ (Same.refl _) (.bl _)⟩
theorem b8m (hc:X.calm=true):ao0 X (.builtin "sum") (o1 .sum):=by
 intro pins s σ H xs us Q I r h
 obtain⟨O,x,d1,d,rfl,L,v1,e,q⟩:=h
 cases d1<;>try (cases e)
 rename_i ds
 obtain⟨a,vs,rfl,s1,r1,z1⟩:=v1.list
 have e':(ofO (intsOf ds)).bind (fun bs=>R.ok (PyData.int bs.sum))= .ok d:=e
 cases k:intsOf ds with
 |none=>rw[k]at e';cases e'
 |some bs=>
  rw[k]at e'
  cases e'
  rw[a2l r1 k]at s1
  exact cr_sum hc pins s σ H _ us Q I r ⟨a,bs,rfl,s1,q _ _ (Same.refl _) (.int _)⟩
theorem foldl_min (r:List Int): ∀x:Int,r.foldl min x≤x∧(∀y∈r,r.foldl min x≤y)∧(r.foldl min x=x∨r.foldl min x∈r):=by
 induction r with
 |nil=>intro x;simp
 |cons a r ih=>
  intro x
  obtain⟨h1,h2,h3⟩:=ih (min x a)
  simp only[List.foldl_cons]
  refine⟨by omega,fun y hy=> ?_,?_⟩
  ·rcases List.mem_cons.mp hy with rfl|hy
   ·omega
   ·exact h2 y hy
  ·rcases h3 with h|h
   ·    rcases Int.le_total x a with z|z
        ·exact .inl (by rw[h];omega)
        ·exact .inr (by rw[h,Int.min_eq_right z];exact List.mem_cons_self)
   ·exact .inr (List.mem_cons_of_mem _ h)
theorem foldl_max (r:List Int): ∀x:Int,x≤r.foldl max x∧(∀y∈r,y≤r.foldl max x)∧(r.foldl max x=x∨r.foldl max x∈r):=by
 induction r with
 |nil=>intro x;simp
 |cons a r ih=>
  intro x
  obtain⟨h1,h2,h3⟩:=ih (max x a)
  simp only[List.foldl_cons]
  refine⟨by omega,fun y hy=> ?_,?_⟩
  ·rcases List.mem_cons.mp hy with rfl|hy
   ·omega
   ·exact h2 y hy
  ·rcases h3 with h|h
   ·    rcases Int.le_total x a with z|z
        ·exact .inr (by rw[h,Int.max_eq_right z];exact List.mem_cons_self)
        ·exact .inl (by rw[h];omega)
   ·exact .inr (List.mem_cons_of_mem _ h)
theorem b8n (hc:X.calm=true):ao0 X (.builtin "min") (o1 .min):=by
 intro pins s σ H xs us Q I r h
 obtain⟨O,x,d1,d,rfl,L,v1,e,q⟩:=h
 cases d1<;>try (cases e)
 rename_i ds
 obtain⟨a,vs,rfl,s1,r1,z1⟩:=v1.list
 have e:(ofO (intsOf ds)).bind (fun ns=>(ofO (bx5 ns)).bind fun m=>R.ok (PyData.int m))= .ok d:=e
 cases k:intsOf ds with
 |none=>rw[k]at e;cases e
 |some bs=>
  rw[k]at e
  cases bs with
  |nil=>cases e
  |cons b bs=>
   cases e
   rw[a2l r1 k]at s1
   obtain⟨m1,m2,m3⟩:=foldl_min bs b
   refine cr_min hc pins s σ H _ us Q I r ⟨a,b::bs,rfl,s1,by simp,fun m hm hl=> ?_⟩
   have e1:m=bs.foldl min b:=by
        have l1:m≤bs.foldl min b:=by
         rcases m3 with h|h
         ·rw[h];exact hl b List.mem_cons_self
         ·exact hl _ (List.mem_cons_of_mem _ h)
        have l2:bs.foldl min b≤m:=by
         rcases List.mem_cons.mp hm with rfl|h
         ·exact m1
         ·exact m2 _ h
        omega
   rw[e1]
   exact q _ _ (Same.refl _) (.int _)
theorem b8o (hc:X.calm=true):ao0 X (.builtin "max") (o1 .max):=by
 intro pins s σ H xs us Q I r h
 obtain⟨O,x,d1,d,rfl,L,v1,e,q⟩:=h
 cases d1<;>try (cases e)
 rename_i ds
 obtain⟨a,vs,rfl,s1,r1,z1⟩:=v1.list
 have e:(ofO (intsOf ds)).bind (fun ns=>(ofO (bx7 ns)).bind fun m=>R.ok (PyData.int m))= .ok d:=e
 cases k:intsOf ds with
 |none=>rw[k]at e;cases e
 |some bs=>
  rw[k]at e
  cases bs with
  |nil=>cases e
  |cons b bs=>
   cases e
   rw[a2l r1 k]at s1
   obtain⟨m1,m2,m3⟩:=foldl_max bs b
   refine cr_max hc pins s σ H _ us Q I r ⟨a,b::bs,rfl,s1,by simp,fun m hm hl=> ?_⟩
   have e1:m=bs.foldl max b:=by
        have l1:bs.foldl max b≤m:=by
         rcases m3 with h|h
         ·rw[h];exact hl b List.mem_cons_self
         ·exact hl _ (List.mem_cons_of_mem _ h)
        have l2:m≤bs.foldl max b:=by
         rcases List.mem_cons.mp hm with rfl|h
         ·exact m1
         ·exact m2 _ h
        omega
   rw[e1]
   exact q _ _ (Same.refl _) (.int _)
theorem int_ok:ao0 X (.type "int") (o1 .int):=by
 intro pins s σ H xs us Q I r h
 obtain⟨O,x,d1,d,rfl,L,v1,e,q⟩:=h
 cases d1<;>try (cases e)
 cases v1.int
 exact call_int1 pins s σ H _ us Q I r (.inl ⟨_,rfl,q _ _ (Same.refl _) (.int _)⟩)
theorem bD5 {x:Str}{c:Nat}(h:PyData.strOk x=true)(hc:c∈x.cps):PyData.strOk ⟨#[c]⟩=true:=by
 unfold PyData.strOk at h ⊢
 rw[Array.all_eq_true_iff_forall_mem]at h ⊢
 intro y hy
 have e:y=c:=by simpa using hy
 rw[e]
 exact h c hc
theorem bD6 {K:Fr'}{H:Hp}{cs:List Nat}(h: ∀c∈cs,PyData.strOk ⟨#[c]⟩=true):aa1 K H (cs.map fun c=>V.str ⟨#[c]⟩) (cs.map fun c=> .str ⟨#[c]⟩):=by
 induction cs with
 |nil=>exact .nil
 |cons c cs ih=>exact .cons (.str _ (h c List.mem_cons_self) (by show 1≤sizeLine;decide)) (ih fun d hd=>h d (List.mem_cons_of_mem _ hd))
theorem a6B: ∀(cs:List Nat) (us:List Value),us.length=cs.length→(∀(i:Nat) (u:Value),us[i]? =some u→ ∃c t,cs[i]? =some c∧u= .str ⟨#[c]⟩ t)→Vals (cs.map fun c=>V.str ⟨#[c]⟩) us
 | [],[],_,_=> .nil
 | [],_::_,h,_=>by simp at h
 |_::_,[],h,_=>by simp at h
 |c::cs,u::us,hl,h=>by
  obtain⟨c',t,e1,e2⟩:=h 0 u rfl
  have e1:c=c':=by simpa using e1
  subst e1
  exact .cons ⟨t,e2⟩ (a6B cs us (by simpa using hl) fun i v hv=>by simpa using h (i+1) v (by simpa using hv))
theorem b8p (hc:X.calm=true):ao0 X (.type "tuple") (o1 .tup):=by
 intro pins s σ H xs us Q I r h
 obtain⟨O,x,d1,d,rfl,L,v1,e,q⟩:=h
 cases d1<;>try (cases e)
 ·rename_i z
  obtain⟨rfl,ok,sz⟩:=v1.str
  obtain⟨u,rfl,t,rfl⟩:=vals1 r
  refine call_tuple_str (I.ok.hd hc) z t (fun h' tk acc kp it=> ?_) sz
  have I1:Inv X pins σ H { s with heap:=h',toks:=tk }:=I.kept (t':=tk) kp
  have rv:Vals (z.cps.toList.map fun c=>V.str ⟨#[c]⟩) acc.toList:=a6B _ _ (by simpa using it.1) fun i u hu=>by
   obtain⟨c,t2,h1,h2⟩:=it.2 i u (by simpa using hu)
   exact⟨c,t2,by simpa using h1,h2⟩
  have I2:=ay8 (Q:=Q) (s:= { s with heap:=h',toks:=tk }) I1 rv (by rw[List.length_map,Array.length_toList];exact sz) (fun p o hn ho=>q _ _ (ab2 hn) (av1 L hn ho (bD6 fun c hc=>bD5 ok (by simpa using hc)) (by rw[List.length_map,Array.length_toList];exact sz)))
  rw[Array.toArray_toList]at I2
  exact I2
 ·obtain⟨a,vs,rfl,s1,r1,z1⟩:=v1.list
  exact bA1 pins s σ H _ us Q I r ⟨a,vs,rfl,.inl ⟨s1,fun l o hl ho=>q _ _ (ab2 hl) (av1 L hl ho r1 z1)⟩⟩
 ·obtain⟨a,vs,rfl,s1,r1,z1⟩:=v1.tuple
  exact bA1 pins s σ H _ us Q I r ⟨a,vs,rfl,.inr ⟨af0 aa9 s1.t,q _ _ (Same.refl _) (.tup s1 r1 z1)⟩⟩
theorem b8q (hc:X.calm=true):ao0 X (.type "list") (o1 .lsts):=by
 intro pins s σ H xs us Q I r h
 obtain⟨O,x,d1,d,rfl,L,v1,e,q⟩:=h
 cases d1<;>try (cases e)
 ·rename_i z
  obtain⟨rfl,ok,sz⟩:=v1.str
  obtain⟨u,rfl,t,rfl⟩:=vals1 r
  refine call_list_str (I.ok.hd hc) z t (fun h' tk acc n kp new it=> ?_) sz
  have rv:Vals (z.cps.toList.map fun c=>V.str ⟨#[c]⟩) acc.toList:=a6B _ _ (by simpa using it.1) fun i u hu=>by
   obtain⟨c,t2,h1,h2⟩:=it.2 i u (by simpa using hu)
   exact⟨c,t2,by simpa using h1,h2⟩
  have hl:(z.cps.toList.map fun c=>V.str ⟨#[c]⟩).length≤sizeLine:=by rw[List.length_map,Array.length_toList];exact sz
  have I2:Inv X pins σ (upd H s.heap.objs.size (.lst (z.cps.toList.map fun c=>V.str ⟨#[c]⟩))) { s with heap:=h',toks:=tk }:=
   I.laid kp (Nat.le_refl _) (show ObjOk X.prog X.w _ _ _ (.lst _)from⟨hl,acc.toList,n,rv,by simpa using new⟩)
  have hn:=I.hok.fresh (Nat.le_refl s.heap.objs.size)
  exact⟨.ref s.heap.objs.size,_,I2,rfl,q _ _ (ab2 hn) (ao8 L hn (bD6 fun c hc=>bD5 ok (by simpa using hc)) (by rw[List.length_map,Array.length_toList];exact sz))⟩
theorem b8r:ao0 X (.type "list") (o1 .lst):=by
 intro pins s σ H xs us Q I r h
 obtain⟨O,x,d1,d,rfl,L,v1,e,q⟩:=h
 cases d1<;>try (cases e)
 ·obtain⟨a,vs,rfl,s1,r1,z1⟩:=v1.list
  exact call_list_of pins s σ H _ us Q I r ⟨a,vs,rfl,.inl s1,fun l hl=>q _ _ (ab2 hl) (ao8 L hl r1 z1)⟩
 ·obtain⟨a,vs,rfl,s1,r1,z1⟩:=v1.tuple
  exact call_list_of pins s σ H _ us Q I r ⟨a,vs,rfl,.inr (af0 aa9 s1.t),fun l hl=>q _ _ (ab2 hl) (ao8 L hl r1 z1)⟩
end
end Fz
namespace Fz
open PySem PySem.Spec L2
variable [aa0]
section
variable {X:Cx}
def tyName:D→String
 | .none=>"NoneType"
 | .bool _=>"bool"
 | .int _=>"int"
 | .str _=>"str"
 | .list _=>"list"
 | .tuple _=>"tuple"
 | .dict _=>"dict"
theorem Rp.ty {K:Fr'}{H:Hp}: ∀ {v:V} {d:D},Rp K H v d→(∀kvs,d≠ .dict kvs)→TyX K H v (.type (tyName d))
 |_,_,.non,_=> .base .non
 |_,_,.bl b,_=> .base (.bl b)
 |_,_,.int i,_=> .base (.int i)
 |_,_,.str x _ _,_=> .base (.str x)
 |_,_,.lst q _ _,_=>by
  rcases q with(q|⟨o,q⟩)|⟨o,its,n,q,c,_⟩
  ·exact .base (.lst q)
  ·exact .base (.frz q)
  ·exact .kList q c
 |_,_,.tup q _ _,_=>by
  rcases q with⟨o,q,_⟩|⟨o,its,n,q,c,_⟩
  ·exact .fTuple q
  ·exact .kTuple q c
 |_,_,.dct ..,nd=>absurd rfl (nd _)
 |_,_,.dcti ..,nd=>absurd rfl (nd _)
def b8s (K:Fr')(T:String)(g:D→Bool):List V→Hp→VK→Prop:=fun xs H Q=> ∃O x d1,xs=[x,.ty T]∧ab3 H O∧Vd K O H x d1∧(∀kvs,d1≠ .dict kvs)∧Q (.bl (g d1)) H
theorem b8t {T:String}{g:D→Bool}(h: ∀d,(∀kvs,d≠ .dict kvs)→kitB (tyName d) T=some (g d)):CallR X (.builtin "isinstance") (b8s X.K T g):=by
 intro pins s σ H xs us Q I r hh
 obtain⟨O,x,d1,rfl,L,v1,nd,q⟩:=hh
 exact call_isi pins s σ H _ us Q I r ⟨x,.ty T,.type (tyName d1),.type T,g d1,rfl,.ty T,v1.rp.ty nd,kit_ty (h d1 nd),q⟩
theorem b8u (d:D)(nd: ∀kvs,d≠ .dict kvs):kitB (tyName d) "str"=some (isStr d):=by
 cases d with
 |none=>exact(by decide+kernel:kitB "NoneType" "str"=some false)
 |bool _=>exact(by decide+kernel:kitB "bool" "str"=some false)
 |int _=>exact(by decide+kernel:kitB "int" "str"=some false)
 |str _=>exact(by decide+kernel:kitB "str" "str"=some true)
 |list _=>exact(by decide+kernel:kitB "list" "str"=some false)
 |tuple _=>exact(by decide+kernel:kitB "tuple" "str"=some false)
 |dict kvs=>exact absurd rfl (nd kvs)
theorem b8x (d:D)(nd: ∀kvs,d≠ .dict kvs):kitB (tyName d) "tuple"=some (isTup d):=by
 cases d with
 |none=>exact(by decide+kernel:kitB "NoneType" "tuple"=some false)
 |bool _=>exact(by decide+kernel:kitB "bool" "tuple"=some false)
 |int _=>exact(by decide+kernel:kitB "int" "tuple"=some false)
 |str _=>exact(by decide+kernel:kitB "str" "tuple"=some false)
 |list _=>exact(by decide+kernel:kitB "list" "tuple"=some false)
 |tuple _=>exact(by decide+kernel:kitB "tuple" "tuple"=some true)
 |dict kvs=>exact absurd rfl (nd kvs)
theorem b8y (d:D)(nd: ∀kvs,d≠ .dict kvs):kitB (tyName d) "list"=some (ag4 d):=by
 cases d with
 |none=>exact(by decide+kernel:kitB "NoneType" "list"=some false)
 |bool _=>exact(by decide+kernel:kitB "bool" "list"=some false)
 |int _=>exact(by decide+kernel:kitB "int" "list"=some false)
 |str _=>exact(by decide+kernel:kitB "str" "list"=some false)
 |list _=>exact(by decide+kernel:kitB "list" "list"=some true)
 |tuple _=>exact(by decide+kernel:kitB "tuple" "list"=some false)
 |dict kvs=>exact absurd rfl (nd kvs)
theorem b8z (d:D)(nd: ∀kvs,d≠ .dict kvs):kitB (tyName d) "int"=some (isInt d):=by
 cases d with
 |none=>exact(by decide+kernel:kitB "NoneType" "int"=some false)
 |bool _=>exact(by decide+kernel:kitB "bool" "int"=some true)
 |int _=>exact(by decide+kernel:kitB "int" "int"=some true)
 |str _=>exact(by decide+kernel:kitB "str" "int"=some false)
 |list _=>exact(by decide+kernel:kitB "list" "int"=some false)
 |tuple _=>exact(by decide+kernel:kitB "tuple" "int"=some false)
 |dict kvs=>exact absurd rfl (nd kvs)
theorem b8A (d:D)(nd: ∀kvs,d≠ .dict kvs):kitB (tyName d) "bool"=some (isBool d):=by
 cases d with
 |none=>exact(by decide+kernel:kitB "NoneType" "bool"=some false)
 |bool _=>exact(by decide+kernel:kitB "bool" "bool"=some true)
 |int _=>exact(by decide+kernel:kitB "int" "bool"=some false)
 |str _=>exact(by decide+kernel:kitB "str" "bool"=some false)
 |list _=>exact(by decide+kernel:kitB "list" "bool"=some false)
 |tuple _=>exact(by decide+kernel:kitB "tuple" "bool"=some false)
 |dict kvs=>exact absurd rfl (nd kvs)
theorem depth_le {xs:List D}(h:sortable xs=true): ∀d∈xs,d.depth≤40:=by
 unfold sortable at h
 simp only[Bool.and_eq_true,List.all_eq_true,decide_eq_true_eq]at h
 exact h.2
theorem av4 {xs:List D}(h:sortable xs=true):PySem.W.AllAlike xs:=by
 unfold sortable a5T at h
 simp only[Bool.and_eq_true,List.all_eq_true]at h
 exact fun d hd d' hd'=>h.1.1 d hd d' hd'
def Sor (xs:List D):Prop:=PySem.W.Sortable xs∨(xs.length≤1∧ ∀d∈xs,d≠ .none)
theorem a2n {xs:List D}(h:sortable xs=true):Sor xs:=by
 unfold sortable at h
 simp only[Bool.and_eq_true,Bool.or_eq_true,List.all_eq_true,decide_eq_true_eq]at h
 rcases h.1.2 with(h|h)|h
 ·refine .inl (.inl fun d hd=> ?_)
  have:=h d hd
  cases d<;>try (cases this)
  rename_i l
  cases l with
  |nil=>cases this
  |cons x r=>exact⟨x,r,rfl⟩
 ·refine .inl (.inr fun d hd=> ?_)
  have:=h d hd
  refine⟨fun z=> ?_,fun xs z=> ?_⟩ <;>(subst z;cases this)
 ·refine .inr ⟨h.1,fun d hd z=> ?_⟩
  have:=h.2 d hd
  subst z
  cases this
theorem Sor.perm {xs ys:List D}(h:Sor xs)(p:ys.Perm xs):Sor ys:=by
 rcases h with(h|h)|h
 ·exact .inl (.inl fun d hd=>h d (p.mem_iff.mp hd))
 ·exact .inl (.inr fun d hd=>h d (p.mem_iff.mp hd))
 ·exact .inr ⟨by rw[p.length_eq];exact h.1,fun d hd=>h.2 d (p.mem_iff.mp hd)⟩
theorem bD8 {P:Program}{w:World}{A:Around}{s:Shared}{vs:List Value}{ds:List D}(e:PySem.W.EachIs (fun v d=> ∃as,Reads s.heap v d as) vs ds)(hal:PySem.W.AllAlike ds)(hk:Sor ds)(hu: ∀d,d∈ds→A.units+d.depth<cLine):PySem.W.SortsAt P w A s (PySem.W.dataKind s.heap ds) vs:=by
 rcases hk with hk|⟨hl,hn⟩
 ·exact PySem.W.SortsAt.data e hal hk hu
 ·refine⟨fun v hv=> ?_,PyProof.Rows.general',?_,fun h2=>absurd h2 (by rw[e.length];omega)⟩
  ·obtain⟨d,hd,as,r⟩:=e.left v hv
   exact⟨_,PySem.W.dataKind_some hal hd r⟩
  ·intro E x y a b Q ha hb hq
   obtain⟨d,as,hd,ra,rfl⟩:=PySem.W.dataKind_inv ha
   obtain⟨d',as',hd',rb,rfl⟩:=PySem.W.dataKind_inv hb
   have hr:A.units+min d.depth d'.depth<cLine:=Nat.lt_of_le_of_lt (Nat.add_le_add_left (Nat.min_le_left _ _) _) (hu d hd)
   show wpAny (model P w) A (PyProof.Rows.oneLt' false x y) Q E s
   exact PySem.W.oneLt_alike (fun z=>by cases z) ra rb (hal d hd d' hd') (hn d hd) hr hq
section
variable {P:Program} {w:World} {A:Around} {s:Shared} {E:Value→Shared→Prop} {β:Type} {R:Value→β→Prop} {enc:β→D} {vs:List Value} {bs:List β}
theorem b8C {l:Addr}{Q:Value→Shared→Prop}(hl:s.heap.IsList l vs.toArray)(e:PySem.W.EachIs R vs bs)(er:PySem.W.EachIs (fun v b=> ∃as,Reads s.heap v (enc b) as) vs bs)(hal:PySem.W.AllAlike (bs.map enc))(hk:Sor (bs.map enc))(hL:bs.length≤sizeLine)
  (hu: ∀b,b∈bs→A.units+2+(enc b).depth<cLine) (h: ∀out,out.length=bs.length→PySem.W.EachIs R out (bs.mergeSort (PySem.W.dataLe false enc))→Q (.ref (s.heap.objs.size+1)) { s with heap:=PyProof.Rows.sortedAll s.heap vs (List.toArray out) }):
  wpAny (model P w) A (call (.builtin "sorted") [.ref l]) Q E s:=by
 have er':PySem.W.EachIs (fun v b=> ∃as,Reads (PySem.W.sortingHeap (PySem.W.copyHeap s.heap vs) (s.heap.objs.size+1) vs) v (enc b) as) vs bs:=er.mono fun _ _ ⟨as,r⟩=>⟨as,PyProof.Rows.Reads.keeps (fun _ _=>PySem.W.sorting_copy_old) r⟩
 refine PySem.W.sorted_vals hl (bD8 (s:= { s with heap:=PySem.W.sortingHeap (PySem.W.copyHeap s.heap vs) (s.heap.objs.size+1) vs }) (PySem.W.each_map (R:=fun v d=> ∃as,Reads (PySem.W.sortingHeap (PySem.W.copyHeap s.heap vs) (s.heap.objs.size+1) vs) v d as) enc er') hal hk (PySem.W.bound_map hu)) (by rw[e.length];exact hL) ?_
 exact h _ (by rw[PySem.W.sortVals_length false rfl];exact e.length) (PySem.W.sortVals_data false e er' hal)
theorem b8D {a:Addr}{n:Nat}{Q:Value→Shared→Prop}(ho:s.heap.get? a=some (PyProof.Rows.seqObj "list" vs.toArray n))(e:PySem.W.EachIs R vs bs)(er:PySem.W.EachIs (fun v b=> ∃as,Reads s.heap v (enc b) as∧a∉as) vs bs)(hal:PySem.W.AllAlike (bs.map enc))(hk:Sor (bs.map enc))(hL:bs.length≤sizeLine)
  (hu: ∀b,b∈bs→A.units+1+(enc b).depth<cLine) (h: ∀out,out.length=bs.length→PySem.W.EachIs R out (bs.mergeSort (PySem.W.dataLe false enc))→Q .none { s with heap:=PyProof.Rows.sortedHeap s.heap a vs (List.toArray out) }):
  wpAny (model P w) A (call (.builtin "list.sort") [.ref a]) Q E s:=by
 have er':PySem.W.EachIs (fun v b=> ∃as,Reads (PySem.W.sortingHeap s.heap a vs) v (enc b) as) vs bs:=PySem.W.each_keepBut (h':=PySem.W.sortingHeap s.heap a vs) (fun _ _ hb q=>PySem.W.sortingHeap_old hb q) (fun o q=>by rw[ho]at q;rw[←Option.some.inj q]) hal er
 refine wpAny_call_entry PyProof.Rows.slot_list_sort ⟨_,ho,rfl⟩ PyProof.Rows.entry_list_sort (PySem.W.list_sort_vals (κ:=PySem.W.dataKind (PySem.W.sortingHeap s.heap a vs) (bs.map enc)) ho (bD8 (s:= { s with heap:=PySem.W.sortingHeap s.heap a vs }) (PySem.W.each_map (R:=fun v d=> ∃as,Reads (PySem.W.sortingHeap s.heap a vs) v d as) enc er') hal hk (PySem.W.bound_map hu)) (by rw[e.length];exact hL) ⟨.none,rfl,?_⟩) (PyProof.Rows.args_list_sort _)
 exact h _ (by rw[PySem.W.sortVals_length false rfl];exact e.length) (PySem.W.sortVals_data false e er' hal)
end
mutual
theorem aK3: ∀d:D,PySem.W.alike d d=true→noD d=true
 | .none,_=>rfl
 | .bool _,_=>rfl
 | .int _,_=>rfl
 | .str _,_=>rfl
 | .list xs,h=>by simpa[noD]using a6C xs (by simpa[PySem.W.alike]using h)
 | .tuple xs,h=>by simpa[noD]using a6C xs (by simpa[PySem.W.alike]using h)
 | .dict _,h=>by simp[PySem.W.alike]at h
theorem a6C: ∀xs:List D,PySem.W.alikeAll xs xs=true→ad7 xs=true
 | [],_=>rfl
 |x::r,h=>by
  simp only[PySem.W.alikeAll,Bool.and_eq_true]at h
  simp[ad7,aK3 x h.1,a6C r h.2]
end
theorem a2p {pins:List (Addr×Obj)}{σ:St}{H:Hp}{s:Shared}(I:Inv X pins σ H s){O:List Addr}: ∀ {vs:List V} {ds:List D} {us:List Value},(∀d∈ds,noD d=true)→aa1 X.K (hide H O) vs ds→Vals vs us→
  PySem.W.EachIs (fun u (d:D)=> ∃as,Reads s.heap u d as) us ds∧PySem.W.EachIs (fun u (d:D)=> ∃v,RelV v u∧Rp X.K (hide H O) v d) us ds
 |_,_,_,_,.nil,.nil=>⟨.nil,.nil⟩
 |_,_,_,hn,.cons h1 h2,.cons r1 r2=>by
  obtain⟨a,b⟩:=a2p I (fun d hd=>hn d (List.mem_cons_of_mem _ hd)) h2 r2
  exact⟨.cons (Dp.reads I _ _ _ ((h1.mono aa9).dp (hn _ List.mem_cons_self)) r1) a,.cons ⟨_,r1,h1⟩ b⟩
theorem a6E {K:Fr'}{H:Hp}: ∀ {us:List Value} {ds:List D},PySem.W.EachIs (fun u (d:D)=> ∃v,RelV v u∧Rp K H v d) us ds→ ∃vs,Vals vs us∧aa1 K H vs ds
 |_,_,.nil=>⟨[],.nil,.nil⟩
 |_,_,.cons ⟨v,r,h⟩ t=>by
  obtain⟨vs,a,b⟩:=a6E t
  exact⟨v::vs,.cons r a,.cons h b⟩
theorem id_map (xs:List D):xs.map id=xs:=by simp
theorem bD9 {pins:List (Addr×Obj)}{σ:St}{H:Hp}{s:Shared}{Q:VK}{O:List Addr}{l:Addr}{its:List Value}{vs:List V}{ds:List D}(hu:X.A.units+64<cLine)(I:Inv X pins σ H s)(L:ab3 H O)
  (hl:s.heap.IsList l its.toArray) (rv:Vals vs its) (r1:aa1 X.K (hide H O) vs ds) (z:ds.length≤sizeLine) (hs:sortable ds=true)
  (q: ∀p ws,H p=none→aa1 X.K (hide H O) ws (ae0 ds)→(ae0 ds).length≤sizeLine→Q (.ref p) (upd H p (.lst ws))):wpAny (model X.prog X.w) X.A (call (.builtin "sorted") [.ref l]) (EP X pins σ Q) X.xe s:=by
 obtain⟨er,e⟩:=a2p I (fun d hd=>aK3 d (av4 hs d hd d hd)) r1 rv
 refine b8C (β:=D) (enc:=id) (R:=fun u d=> ∃v,RelV v u∧Rp X.K (hide H O) v d) hl e er (by rw[id_map];exact av4 hs) (by rw[id_map];exact a2n hs) z (fun b hb=> ?_) (fun out hlen ho=> ?_)
 ·have:=depth_le hs b hb
  show X.A.units+2+b.depth<cLine
  omega
 ·have ho2:PySem.W.EachIs (fun u (d:D)=> ∃v,RelV v u∧Rp X.K (hide H O) v d) out (ae0 ds):=by
   rw[←a1O (av4 hs) (.refl ds)];exact ho
  obtain⟨ws,a,b⟩:=a6E ho2
  obtain⟨ep,he'⟩:=PyProof.Rows.sortedAll_at s.heap its out.toArray
  have hn:H (s.heap.objs.size+1)=none:=I.hok.fresh (Nat.le_succ _)
  have hz:(ae0 ds).length≤sizeLine:=by rw[by6];exact z
  refine⟨.ref _,upd H (s.heap.objs.size+1) (.lst ws),I.laid (t':=s.toks) (fun _ _=>PyProof.Rows.sortedAll_old) (Nat.le_succ _) ⟨by rw[b.length];exact hz,out,ep,a,he'⟩,rfl,q _ _ hn b hz⟩
theorem sorted_run {pins:List (Addr×Obj)}{σ:St}{H:Hp}{s:Shared}{Q:VK}{O:List Addr}{l:Addr}{its:List Value}{vs:List V}{ds:List D}(hu:X.A.units+64<cLine)(I:Inv X pins σ H s)(L:ab3 H O)
  (hl:s.heap.IsList l its.toArray) (rv:Vals vs its) (r1:aa1 X.K (hide H O) vs ds) (z:ds.length≤sizeLine) (hs:sortable ds=true)
  (q: ∀v H',Same H H'→Rp X.K (hide H' O) v (.list (ae0 ds))→Q v H'):wpAny (model X.prog X.w) X.A (call (.builtin "sorted") [.ref l]) (EP X pins σ Q) X.xe s:=
 bD9 hu I L hl rv r1 z hs fun _ _ hn b hz=>q _ _ (ab2 hn) (ao8 L hn b hz)
theorem aK5 {ds:List D}{d:D}(h:aE3 ds= .ok d):sortable ds=true∧d= .list (ae0 ds):=by
 obtain⟨h1,h2⟩:=af1 h
 exact⟨h1,h2.symm⟩
end
end Fz
namespace Fz
open PySem PySem.Spec PyProof.Rows L2
variable [aa0]
section
variable {X:Cx} {pins:List (Addr×Obj)} {σ:L2.St} {H:Hp} {s:Shared} {Q:VK} {O:List Addr}
theorem a6F {a:Addr}{us:List Value}{vs:List V}{ds:List D}(hu:X.A.units+64<cLine)(I:Inv X pins σ H s)(L:ab3 H O)
  (col: ∀(E:Value→Shared→Prop) (Q':List Value→Shared→Prop),(∀s1 out,(∀b o,s.heap.get? b=some o→s1.heap.get? b=some o)→s1.gens=s.gens→s1.os=s.os→out.Perm us→Q' out s1)→
   wpAny (model X.prog X.w) X.A.in1 (collect (.ref a)) Q' E s)
  (rv:Vals vs us) (r1:aa1 X.K (hide H O) vs ds) (z:ds.length≤sizeLine) (hs:sortable ds=true)
  (q: ∀p ws,H p=none→aa1 X.K (hide H O) ws (ae0 ds)→(ae0 ds).length≤sizeLine→Q (.ref p) (upd H p (.lst ws))):wpAny (model X.prog X.w) X.A (call (.builtin "sorted") [.ref a]) (EP X pins σ Q) X.xe s:=by
 refine Calls.call_function_entry kind_sorted plain_sorted entry_sorted (args_sorted1 _) ?_
 unfold Builtin.«sorted»
 refine wpAny_bind (m:=checkCount "sorted" 1 1 _) (wpAny_pure ?_)
 refine wpAny_bind (col _ _ fun s1 out k1 g1 o1 pm=> ?_)
 obtain⟨es2,e2⟩: ∃es2:List D,PySem.W.EachIs (fun u (d:D)=>(∃v,RelV v u∧Rp X.K (hide H O) v d)∧ ∃as,Reads s.heap u d as) out es2∧es2.Perm ds:=by
  obtain⟨er,e⟩:=a2p I (fun d hd=>aK3 d (av4 hs d hd d hd)) r1 rv
  have both:PySem.W.EachIs (fun u (d:D)=>(∃v,RelV v u∧Rp X.K (hide H O) v d)∧ ∃as,Reads s.heap u d as) us ds:=by
   have go: ∀ {us:List Value} {ds:List D},PySem.W.EachIs (fun u (d:D)=> ∃as,Reads s.heap u d as) us ds→PySem.W.EachIs (fun u (d:D)=> ∃v,RelV v u∧Rp X.K (hide H O) v d) us ds→
         PySem.W.EachIs (fun u (d:D)=>(∃v,RelV v u∧Rp X.K (hide H O) v d)∧ ∃as,Reads s.heap u d as) us ds:=by
        intro us ds h1 h2
        induction h1 with
        |nil=>exact .nil
        |cons a _ ih=>cases h2 with|cons b t=>exact .cons ⟨b,a⟩ (ih t)
   exact go er e
  have perm: ∀ {us out:List Value},out.Perm us→ ∀ {ds:List D},PySem.W.EachIs (fun u (d:D)=>(∃v,RelV v u∧Rp X.K (hide H O) v d)∧ ∃as,Reads s.heap u d as) us ds→
        ∃es2:List D,PySem.W.EachIs (fun u (d:D)=>(∃v,RelV v u∧Rp X.K (hide H O) v d)∧ ∃as,Reads s.heap u d as) out es2∧es2.Perm ds:=by
   intro us out p
   induction p with
   |nil=>intro ds h;cases h;exact⟨[],.nil,.refl _⟩
   |    cons x _ ih=>
        intro ds h
        cases h with
        |cons a t=>obtain⟨e2,h1,h2⟩:=ih t;exact⟨_::e2,.cons a h1,h2.cons _⟩
   |    swap x y l=>
        intro ds h
        cases h with
        |cons a t=>cases t with|cons b t=>exact⟨_::_::_,.cons b (.cons a t),.swap _ _ _⟩
   |    trans _ _ ih1 ih2=>
        intro ds h
        obtain⟨e2,h1,h2⟩:=ih2 h
        obtain⟨e1,h3,h4⟩:=ih1 h1
        exact⟨e1,h3,h4.trans h2⟩
  exact perm pm both
 obtain⟨e2,pd⟩:=e2
 have hlen:out.length≤sizeLine:=by rw[e2.length,pd.length_eq];exact z
 refine wpAny_bind (wpAny_newList ?_ hlen)
 have hoL:(s1.heap.push (seqObj "list" out.toArray 0)).get? s1.heap.objs.size=some (seqObj "list" out.toArray 0):=Heap.get?_push_size _ rfl
 have al:=av4 hs
 have al2:PySem.W.AllAlike es2:=fun d hd d' hd'=>al d (pd.mem_iff.mp hd) d' (pd.mem_iff.mp hd')
 have so2:Sor es2:=(a2n hs).perm pd
 have er2:PySem.W.EachIs (fun u (d:D)=> ∃as,Reads (s1.heap.push (seqObj "list" out.toArray 0)) u (id d) as∧s1.heap.objs.size∉as) out es2:=e2.mono fun u d ⟨_,as,r⟩=>by
  have r1:Reads s1.heap u d as:=PyProof.Rows.Reads.keeps k1 r
  refine⟨as,PyProof.Rows.Reads.keeps (fun _ _ q=>Heap.get?_push_of_some _ q) r1,fun hm=> ?_⟩
  obtain⟨o,ho⟩:=PyProof.On.reads_mem_get r1 _ hm
  exact absurd (Heap.lt_size ho) (Nat.lt_irrefl _)
 refine wpAny_bind (wpAny_holding (b8D (s:= { s1 with heap:=s1.heap.push (seqObj "list" out.toArray 0) }) (β:=D) (enc:=id) (R:=fun u d=> ∃v,RelV v u∧Rp X.K (hide H O) v d) hoL (e2.mono fun u d h=>h.1) er2
  (by rw[id_map];exact al2) (by rw[id_map];exact so2) (by rw[pd.length_eq];exact z) (fun b hb=> ?_) fun res hres ho=> ?_))
 ·have:=depth_le hs b (pd.mem_iff.mp hb)
  show X.A.units+1+1+b.depth<cLine
  omega
 ·have ho2:PySem.W.EachIs (fun u (d:D)=> ∃v,RelV v u∧Rp X.K (hide H O) v d) res (ae0 ds):=by
   rw[←a1O al pd];exact ho
  obtain⟨ws,a2,b2⟩:=a6E ho2
  obtain⟨c,hc⟩:=sortedHeap_at (vs:=out) (out:=res.toArray) hoL
  have hz2:(ae0 ds).length≤sizeLine:=by rw[by6];exact z
  obtain⟨h1,g,dr,tk,os⟩:=s1
  obtain⟨h0,g0,dr0,tk0,os0⟩:=s
  dsimp only at k1 g1 o1 hc hoL ⊢
  subst g1 o1
  have I1:Inv X pins σ H { heap:=h1,gens:=g,drawn:=dr0,toks:=tk,os:=os }:=I.kept (t':=tk) k1
  have hn:H h1.objs.size=none:=I1.hok.fresh (Nat.le_refl _)
  refine wpAny_pure ⟨_,rfl,.ref h1.objs.size,upd H h1.objs.size (.lst ws),?_,rfl,q _ _ hn b2 hz2⟩
  have I2:Inv X pins σ (upd H h1.objs.size (.lst ws)) { heap:=sortedHeap (h1.push (seqObj "list" out.toArray 0)) h1.objs.size out res.toArray,gens:=g,drawn:=dr0,toks:=tk,os:=os }:=
   I1.laid (t':=tk) (fun b u e=>by
        have hlt:=Heap.lt_size e
        show(sortedHeap (h1.push (seqObj "list" out.toArray 0)) h1.objs.size out res.toArray).get? b=some u
        rw[sortedHeap_old (Nat.ne_of_lt hlt) (by rw[size_push'];exact Nat.lt_succ_of_lt hlt)]
        exact Heap.get?_push_of_some _ e) (Nat.le_refl _) ⟨by rw[b2.length];exact hz2,res,c,a2,hc⟩
  exact⟨I2.ok,I2.os,I2.bare,I2.base,I2.loc,I2.cell,I2.free,I2.freeC,I2.pin,I2.hok,I2.len⟩
theorem a6G {a:Addr}{us:List Value}{vs:List V}{ds:List D}(hu:X.A.units+64<cLine)(I:Inv X pins σ H s)(L:ab3 H O)
  (col: ∀(E:Value→Shared→Prop) (Q':List Value→Shared→Prop),(∀s1 out,(∀b o,s.heap.get? b=some o→s1.heap.get? b=some o)→s1.gens=s.gens→s1.os=s.os→out.Perm us→Q' out s1)→
   wpAny (model X.prog X.w) X.A.in1 (collect (.ref a)) Q' E s)
  (rv:Vals vs us) (r1:aa1 X.K (hide H O) vs ds) (z:ds.length≤sizeLine) (hs:sortable ds=true)
  (q: ∀v H',Same H H'→Rp X.K (hide H' O) v (.list (ae0 ds))→Q v H'):wpAny (model X.prog X.w) X.A (call (.builtin "sorted") [.ref a]) (EP X pins σ Q) X.xe s:=
 a6F hu I L col rv r1 z hs fun _ _ hn b hz=>q _ _ (ab2 hn) (ao8 L hn b hz)
theorem b8E (hc:X.calm=true)(hu:X.A.units+64<cLine):ao0 X (.builtin "sorted") (o1 .sorted):=by
 intro pins s σ H xs us Q I r h
 obtain⟨O,x,d1,d,rfl,L,v1,e,q⟩:=h
 cases d1<;>try (cases e)
 ·rename_i ds
  obtain⟨a,vs,rfl,s1,r1,z1⟩:=v1.list
  obtain⟨hs,rfl⟩:=aK5 e
  rw[Vals.ref1 r]
  obtain⟨its,rv,pl,_⟩:=I.list s1
  exact sorted_run hu I L pl.isList rv r1 z1 hs q
 ·rename_i ds
  obtain⟨a,vs,rfl,s1,r1,z1⟩:=v1.tuple
  obtain⟨hs,rfl⟩:=aK5 e
  rw[Vals.ref1 r]
  obtain⟨its,rv,⟨o,ho,hc,n,hd⟩,hz⟩:=I.tuple (af0 aa9 s1.t)
  have hl:=rv.length
  refine a6G (us:=its) hu I L (fun E Q' hq=> ?_) rv r1 z1 hs q
  refine wpAny_collect_seq a (.inr rfl) ho hc hd (fun h' k=> ?_) (by simp only[List.size_toArray];omega)
  exact hq _ _ k rfl rfl (by simp)
 ·rename_i kvs
  obtain⟨a,o,es,ep,ks,rfl,dv⟩:=v1.aF4
  obtain⟨hs,rfl⟩:=aK5 e
  rw[Vals.ref1 r]
  have ra:=dv.raw I
  refine a6G (us:=es.toList.map (·.key)) hu I L (fun E Q' hq=> ?_) dv.kv dv.rk (by simpa using dv.sz) hs q
  refine PySem.W.kdu_collect (KdlSrc.rawDict dv.ns) (by simpa using I.ok.hd hc) ra (by rw[dv.len];exact dv.sz) fun h' tk acc k it=>hq _ _ k rfl rfl ?_
  obtain⟨n1,n2⟩:=it
  have:acc.toList=es.toList.map (·.key):=by
   apply List.ext_getElem?
   intro i
   by_cases hi:i<es.size
   ·    have hv:acc[i]? =some acc[i]:=Array.getElem?_eq_getElem (by omega)
        obtain⟨_,e2⟩:=n2 i _ hv
        rw[Array.getElem?_toList,hv,e2,List.getElem?_map,Array.getElem?_toList,Array.getElem?_eq_getElem hi]
        rfl
   ·rw[List.getElem?_eq_none (by rw[Array.length_toList];omega),List.getElem?_eq_none (by rw[List.length_map,Array.length_toList];omega)]
  rw[this]
def b8G (K:Fr'):List V→Hp→VK→Prop:=fun xs H Q=> ∃O x d1 d,xs=[x]∧ab3 H O∧Vd K O H x d1∧o1 .sorted d1= .ok (.list d)∧ ∀p ws,H p=none→aa1 K (hide H O) ws d→d.length≤sizeLine→Q (.ref p) (upd H p (.lst ws))
theorem b8H (hc:X.calm=true)(hu:X.A.units+64<cLine):CallR X (.builtin "sorted") (b8G X.K):=by
 intro pins s σ H xs us Q I r h
 obtain⟨O,x,d1,d,rfl,L,v1,e,q⟩:=h
 cases d1<;>try (cases e)
 ·rename_i ds
  obtain⟨a,vs,rfl,s1,r1,z1⟩:=v1.list
  obtain⟨hs,e'⟩:=aK5 e
  cases e'
  rw[Vals.ref1 r]
  obtain⟨its,rv,pl,_⟩:=I.list s1
  exact bD9 hu I L pl.isList rv r1 z1 hs q
 ·rename_i ds
  obtain⟨a,vs,rfl,s1,r1,z1⟩:=v1.tuple
  obtain⟨hs,e'⟩:=aK5 e
  cases e'
  rw[Vals.ref1 r]
  obtain⟨its,rv,⟨o,ho,hc,n,hd⟩,hz⟩:=I.tuple (af0 aa9 s1.t)
  have hl:=rv.length
  refine a6F (us:=its) hu I L (fun E Q' hq=> ?_) rv r1 z1 hs q
  refine wpAny_collect_seq a (.inr rfl) ho hc hd (fun h' k=> ?_) (by simp only[List.size_toArray];omega)
  exact hq _ _ k rfl rfl (by simp)
 ·rename_i kvs
  obtain⟨a,o,es,ep,ks,rfl,dv⟩:=v1.aF4
  obtain⟨hs,e'⟩:=aK5 e
  cases e'
  rw[Vals.ref1 r]
  have ra:=dv.raw I
  refine a6F (us:=es.toList.map (·.key)) hu I L (fun E Q' hq=> ?_) dv.kv dv.rk (by simpa using dv.sz) hs q
  refine PySem.W.kdu_collect (KdlSrc.rawDict dv.ns) (by simpa using I.ok.hd hc) ra (by rw[dv.len];exact dv.sz) fun h' tk acc k it=>hq _ _ k rfl rfl ?_
  obtain⟨n1,n2⟩:=it
  have:acc.toList=es.toList.map (·.key):=by
   apply List.ext_getElem?
   intro i
   by_cases hi:i<es.size
   ·    have hv:acc[i]? =some acc[i]:=Array.getElem?_eq_getElem (by omega)
        obtain⟨_,e2⟩:=n2 i _ hv
        rw[Array.getElem?_toList,hv,e2,List.getElem?_map,Array.getElem?_toList,Array.getElem?_eq_getElem hi]
        rfl
   ·rw[List.getElem?_eq_none (by rw[Array.length_toList];omega),List.getElem?_eq_none (by rw[List.length_map,Array.length_toList];omega)]
  rw[this]
def k1:D→L2.Key
 | .int i=> .inl i
 | .str x=> .inr x
 |_=> .inl 0
theorem b8J {a b:D}(ha:ai7 a=true)(hb:ai7 b=true):PyData.eqv a b=true↔k1 a=k1 b:=by
 cases a<;>first|(simp[ai7]at ha;done)|skip
 all_goals cases b<;>first|(simp[ai7]at hb;done)|skip
 all_goals simp[PyData.eqv,k1]
theorem b8L {K:Fr'}{H:Hp}{d:D}{v:V}{u:Value}(h:Rp K H v d)(r:RelV v u)(hk:ai7 d=true):KIs (k1 d) u:=by
 cases d<;>first|(simp[ai7]at hk;done)|skip
 ·cases h;obtain⟨t,rfl⟩:=r;exact keyIs_int _ _
 ·obtain⟨rfl,_⟩:=h.a1V
  obtain⟨t,rfl⟩:=r
  exact keyIs_str _ _
section
variable {κ:Type} {key:D→κ}
theorem a2r: ∀(ds acc:List D),(∀a∈acc++ds,∀b∈acc++ds,PyData.eqv a b=true↔key a=key b)→(acc.map key).Nodup→
  ((firsts acc ds).map key).Nodup∧(∀k,k∈(firsts acc ds).map key↔k∈acc.map key∨k∈ds.map key)∧ ∀d∈firsts acc ds,d∈acc++ds
 | [],acc,_,nd=>⟨nd,fun k=>by simp[firsts],fun d h=>by simpa[firsts]using h⟩
 |x::r,acc,hk,nd=>by
  have hx:x∈acc++x::r:=by simp
  unfold firsts
  by_cases hm:acc.any (fun y=>PyData.eqv y x)=true
  ·rw[if_pos hm]
   obtain⟨a1,a2,a3⟩:=a2r r acc (fun a ha b hb=>hk a (by grind) b (by grind)) nd
   obtain⟨y,hy,e⟩:=List.any_eq_true.mp hm
   have ek:key y=key x:=(hk y (by simp[hy]) x hx).mp e
   refine⟨a1,fun k=> ?_,fun d hd=> ?_⟩
   ·    rw[a2 k,List.map_cons,List.mem_cons]
        constructor
        ·rintro(h|h)
         ·exact .inl h
         ·exact .inr (.inr h)
        ·rintro(h|h|h)
         ·exact .inl h
         ·exact .inl (by rw[h,←ek];exact List.mem_map.mpr ⟨y,hy,rfl⟩)
         ·exact .inr h
   ·    have:=a3 d hd
        grind
  ·rw[if_neg hm]
   have nx:key x∉acc.map key:=fun z=>by
        obtain⟨y,hy,e⟩:=List.mem_map.mp z
        exact hm (List.any_eq_true.mpr ⟨y,hy,(hk y (by simp[hy]) x hx).mpr e⟩)
   have nd2:((acc++[x]).map key).Nodup:=by
        rw[List.map_append,List.nodup_append]
        refine⟨nd,by simp,fun a ha b hb=> ?_⟩
        simp at hb
        subst hb
        intro z;subst z;exact nx ha
   obtain⟨a1,a2,a3⟩:=a2r r (acc++[x]) (fun a ha b hb=>hk a (by grind) b (by grind)) nd2
   refine⟨a1,fun k=> ?_,fun d hd=> ?_⟩
   ·    rw[a2 k]
        simp only[List.map_append,List.mem_append,List.map_cons,List.map_nil,List.mem_cons,List.not_mem_nil,or_false]
        grind
   ·    have:=a3 d hd
        grind
end
end
end Fz
namespace Fz
open PySem PySem.Spec PyProof.Rows L2
variable [aa0]
def aF5 (w:World)(K:Fr')(H:Hp)(o:Obj)(ds:List D):Prop:=
 ∃  es ep t vs,o.ExactSet∧o.data= .set es ep t∧t.fits es.size=true∧es.size<scanBound∧Ris t.place.toList∧(w.params.followText "set-order"=true∨t.led=true)∧
    Vals vs (es.toList.map (·.2))∧aa1 K H vs ds
theorem aF5.mono {w:World}{K:Fr'}{H H':Hp}{o:Obj}{ds:List D}(h:aF5 w K H o ds)(e:Ex H H'):aF5 w K H' o ds:=by
 obtain⟨es,ep,t,vs,h1,h2,h3,h4,h5,h6,h7,h8⟩:=h
 exact⟨es,ep,t,vs,h1,h2,h3,h4,h5,h6,h7,h8.mono e⟩
theorem b8M {ds es:List D}(h:sortable ds=true)(s: ∀d∈es,d∈ds)(hl:es.length≤ds.length):sortable es=true:=by
 unfold sortable a5T at h ⊢
 simp only[Bool.and_eq_true,Bool.or_eq_true,List.all_eq_true,decide_eq_true_eq]at h ⊢
 refine⟨⟨fun x hx y hy=>h.1.1 x (s x hx) y (s y hy),?_⟩,fun x hx=>h.2 x (s x hx)⟩
 rcases h.1.2 with(q|q)|q
 ·exact .inl (.inl fun x hx=>q x (s x hx))
 ·exact .inl (.inr fun x hx=>q x (s x hx))
 ·exact .inr ⟨by omega,fun x hx=>q.2 x (s x hx)⟩
section
variable {X:Cx} {pins:List (Addr×Obj)} {σ:L2.St} {H:Hp} {s:Shared} {Q:VK} {O:List Addr} {κ:Type}
theorem bE0 {key:D→κ}{us:List Value}{vs:List V}{ds:List D}(rv:Vals vs us)(r1:aa1 X.K (hide H O) vs ds):
  ∀(L:List (Value×κ)),(∀p∈L,p∈us.zip (ds.map key))→ ∃vs' ds',Vals vs' (L.map (·.1))∧aa1 X.K (hide H O) vs' ds'∧ds'.map key=L.map (·.2)∧ ∀d∈ds',d∈ds
 | [],_=>⟨[],[],.nil,.nil,rfl,fun _ h=>by cases h⟩
 |p::L,h=>by
  obtain⟨vs',ds',a1,a2,a3,a4⟩:=bE0 rv r1 L fun q hq=>h q (List.mem_cons_of_mem _ hq)
  obtain⟨i,hi,e⟩:=List.getElem_of_mem (h p List.mem_cons_self)
  have hi1:i<us.length:=by simp at hi;omega
  have hi2:i<ds.length:=by simp at hi;omega
  have e':us[i]=p.1∧key ds[i]=p.2:=by
   rw[List.getElem_zip,List.getElem_map]at e
   rw[←e]
   exact⟨rfl,rfl⟩
  obtain⟨v,hv,rp⟩:=r1.get (List.getElem?_eq_getElem hi2)
  obtain⟨u,hu,rel⟩:=rv.get hv
  have eu:u=p.1:=by
   rw[List.getElem?_eq_getElem hi1]at hu
   exact(Option.some.inj hu).symm.trans e'.1
  refine⟨v::vs',ds[i]::ds',?_,.cons rp a2,?_,fun d hd=> ?_⟩
  ·rw[List.map_cons];exact .cons (eu▸rel) a1
  ·rw[List.map_cons,List.map_cons,a3,e'.2]
  ·rcases List.mem_cons.mp hd with rfl|hd
   ·exact List.getElem_mem _
   ·exact a4 d hd
theorem bE1 {α:Type}: ∀(L M:List α),L.Nodup→(∀x∈L,x∈M)→L.length≤M.length
 | [],_,_,_=>Nat.zero_le _
 |a::L,M,h1,h2=>by
  obtain⟨s,t,rfl⟩:=List.append_of_mem (h2 a (by simp))
  have h3:=bE1 L (s++t) (List.nodup_cons.mp h1).2 (fun x hx=>by
   have:=h2 x (by simp[hx])
   simp only[List.mem_append,List.mem_cons]at this ⊢
   rcases this with h|h|h
   ·exact .inl h
   ·exact absurd (h▸hx) (List.nodup_cons.mp h1).1
   ·exact .inr h)
  simp only[List.length_append,List.length_cons]at h3 ⊢
  omega
theorem bE2 (T:STh X.prog X.w κ)(key:D→κ){l:Addr}{its:List Value}{vs:List V}{ds:List D}(hc:X.calm=true)(hu:X.A.units+64<cLine)(I:Inv X pins σ H s)
  (hl:s.heap.IsList l its.toArray∨s.heap.IsTuple l its.toArray) (rv:Vals vs its) (r1:aa1 X.K (hide H O) vs ds)
  (hk: ∀v u d,Rp X.K (hide H O) v d→RelV v u→d∈ds→T.is s.heap (key d) u) (hcap:ds.length≤T.cap∨(firsts [] ds).length+1≤T.cap) (hq: ∀a∈ds,∀b∈ds,PyData.eqv a b=true↔key a=key b)
  (q: ∀a o ds',H a=none→aF5 X.w X.K (hide H O) o ds'→ds'.length=(firsts [] ds).length→(∀d∈ds',d∈ds)→(PySem.W.AllAlike ds→ds'.Perm (firsts [] ds))→Q (.ref a) (upd H a (setAt a o))):
  wpAny (model X.prog X.w) X.A (call (.type "set") [.ref l]) (EP X pins σ Q) X.xe s:=by
 have n1:=r1.length
 have n2:=rv.length
 have hz:(its.zip (ds.map key)).map (·.1)=its:=List.map_fst_zip (by simp;omega)
 have hz2:(its.zip (ds.map key)).map (·.2)=ds.map key:=List.map_snd_zip (by simp;omega)
 refine b6B T (items:=its.toArray) (its.zip (ds.map key)) (I.ok.hd hc) hl (by rw[hz]) (fun p hp=> ?_) (fun i L hi g nd=> ?_) (by omega) fun h' tk L R g k=> ?_
 ·obtain⟨i,hi,e⟩:=List.getElem_of_mem hp
  have hi1:i<its.length:=by simp at hi;omega
  have hi2:i<ds.length:=by simp at hi;omega
  rw[List.getElem_zip,List.getElem_map]at e
  obtain⟨v,hv,rp⟩:=r1.get (List.getElem?_eq_getElem hi2)
  obtain⟨u,hu',rel⟩:=rv.get hv
  rw[List.getElem?_eq_getElem hi1]at hu'
  rw[←e]
  exact hk v _ _ rp ((Option.some.inj hu').symm▸rel) (List.getElem_mem _)
 ·rcases hcap with hcap|hcap
  ·have:=g.len
   simp at hi
   omega
  ·obtain⟨f1,f2,f3⟩:=a2r (key:=key) ds [] (by simpa using hq) (by simp)
   have h1:=bE1 (L.map (·.2)) ((firsts [] ds).map key) nd (fun x hx=>by
        rw[f2 x]
        right
        obtain⟨p,hp,rfl⟩:=List.mem_map.mp hx
        have hp':=List.mem_of_mem_take (g.sub p hp)
        rw[←hz2]
        exact List.mem_map.mpr ⟨p,hp',rfl⟩)
   simp only[List.length_map]at h1
   omega
 ·have g': ∀p∈L,p∈its.zip (ds.map key):=fun p hp=>List.mem_of_mem_take (g.sub p hp)
  obtain⟨vs',ds',a1,a2,a3,a4⟩:=bE0 (X:=X) rv r1 L g'
  obtain⟨es,ep,t,⟨o,ho,hcl,hd⟩,hf,hsz,hr,hled,hrows⟩:=T.raw R
  have nd:=T.nd R
  obtain⟨f1,f2,f3⟩:=a2r (key:=key) ds [] (by simpa using hq) (by simp)
  have mem: ∀x,x∈ds'.map key↔x∈(firsts [] ds).map key:=fun x=>by
   rw[f2 x,a3]
   simp only[List.map_nil,List.not_mem_nil,false_or]
   constructor
   ·    intro hx
        obtain⟨p,hp,rfl⟩:=List.mem_map.mp hx
        rw[←hz2]
        exact List.mem_map.mpr ⟨p,g' p hp,rfl⟩
   ·    intro hx
        rw[←hz2]at hx
        obtain⟨p,hp,rfl⟩:=List.mem_map.mp hx
        exact g.all p (by rw[List.take_length];exact hp)
  have nd':(ds'.map key).Nodup:=by rw[a3];exact nd
  have pk:(ds'.map key).Perm ((firsts [] ds).map key):=(List.perm_ext_iff_of_nodup nd' f1).mpr mem
  have hn:H s.heap.objs.size=none:=I.hok.fresh (Nat.le_refl _)
  refine⟨.ref s.heap.objs.size,upd H s.heap.objs.size (setAt s.heap.objs.size o),I.laid (t':=tk) k (Nat.le_refl _) (aK0 ho),rfl,q _ o ds' hn ⟨es,ep,t,vs',hcl,hd,hf,hsz,hr,hled,by rw[hrows];exact a1,a2⟩ ?_ a4 fun al=> ?_⟩
  ·have:=pk.length_eq
   simpa using this
  ·refine(List.perm_ext_iff_of_nodup (L2.nodup_of_map nd') (L2.nodup_of_map f1)).mpr fun d=> ?_
   have inj: ∀a∈ds,∀b∈ds,key a=key b→a=b:=fun a ha b hb e=>aS2 a b (al a ha b hb) ((hq a ha b hb).mpr e)
   constructor
   ·    intro h
        obtain⟨d2,h2,e⟩:=List.mem_map.mp ((mem (key d)).mp (List.mem_map.mpr ⟨d,h,rfl⟩))
        rw[←inj d2 (by simpa using f3 d2 h2) d (a4 d h) e];exact h2
   ·    intro h
        obtain⟨d2,h2,e⟩:=List.mem_map.mp ((mem (key d)).mpr (List.mem_map.mpr ⟨d,h,rfl⟩))
        rw[←inj d2 (a4 d2 h2) d (by simpa using f3 d h) e];exact h2
theorem b8N:(th1 X.prog X.w).cap=4000:=rfl
theorem b8Q:(th2 X.prog X.w).cap=306:=rfl
def bE3 (w:World)(K:Fr'):List V→Hp→VK→Prop:=fun xs H Q=> ∃O x d1 ds,xs=[x]∧ab3 H O∧Vd K O H x d1∧ao5 d1=some ds∧setOk ds=true∧
 ∀a o ds',H a=none→aF5 w K (hide H O) o ds'→ds'.length=(firsts [] ds).length→(∀d∈ds',d∈ds)→(PySem.W.AllAlike ds→ds'.Perm (firsts [] ds))→Q (.ref a) (upd H a (setAt a o))
theorem bE4 (hc:X.calm=true)(hu:X.A.units+64<cLine):CallR X (.type "set") (bE3 X.w X.K):=by
 intro pins s σ H xs us Q I r h
 obtain⟨O,x,d1,ds,rfl,L,v1,e,hs,q⟩:=h
 have main: ∀(a:Addr) (vs:List V) (its:List Value),us=[Value.ref a]→(s.heap.IsList a its.toArray∨s.heap.IsTuple a its.toArray)→Vals vs its→aa1 X.K (hide H O) vs ds→
   wpAny (model X.prog X.w) X.A (call (.type "set") us) (EP X pins σ Q) X.xe s:=by
  intro a vs its eu hl rv r1
  rw[eu]
  unfold setOk at hs
  simp only[Bool.or_eq_true,Bool.and_eq_true,List.all_eq_true,decide_eq_true_eq]at hs
  rcases hs with hs|hs
  ·exact bE2 (th1 X.prog X.w) k1 hc hu I hl rv r1 (fun v u d rp rel hd=>b8L rp rel (hs.1 d hd)) (.inl (by rw[b8N];exact hs.2)) (fun a ha b hb=>b8J (hs.1 a ha) (hs.1 b hb)) q
  ·refine bE2 (th2 X.prog X.w) nk hc hu I hl rv r1 (fun v u d rp rel hd=> ?_) (by rw[b8Q];exact hs.2.imp id (fun h=>Nat.succ_le_succ h)) (fun a ha b hb=>bB5 (ap3 (hs.1 a ha)).1 (ap3 (hs.1 b hb)).1) q
   obtain⟨k1,k2,ys,k3⟩:=ap3 (hs.1 d hd)
   refine⟨?_,a6u I d v u (rp.mono aa9) rel k1,by rw[a6t d k1];exact k2⟩
   subst k3
   cases rp with
   |tup _ _ _=>exact⟨_,rel⟩
 cases d1<;>try (cases e)
 ·obtain⟨a,vs,rfl,s1,r1,z1⟩:=v1.list
  obtain⟨its,rv,pl,_⟩:=I.list s1
  exact main a vs its (Vals.ref1 r) (.inl pl.isList) rv r1
 ·obtain⟨a,vs,rfl,s1,r1,z1⟩:=v1.tuple
  obtain⟨its,rv,pl,_⟩:=I.tuple (af0 aa9 s1.t)
  exact main a vs its (Vals.ref1 r) (.inr pl) rv r1
def bE5 (w:World)(K:Fr'):List V→Hp→VK→Prop:=fun xs H Q=> ∃O a o ds',xs=[.ref a]∧ab3 H O∧H a=some (setAt a o)∧aF5 w K (hide H O) o ds'∧sortable ds'=true∧ds'.length≤sizeLine∧
 ∀v H',Same H H'→Rp K (hide H' O) v (.list (ae0 ds'))→Q v H'
theorem b8S (hc:X.calm=true)(hu:X.A.units+64<cLine):CallR X (.builtin "sorted") (bE5 X.w X.K):=by
 intro pins s σ H xs us Q I r h
 obtain⟨O,a,o,ds',rfl,L,ha,hd,hs,hz,q⟩:=h
 rw[Vals.ref1 r]
 obtain⟨es,ep,t,vs,h1,h2,h3,h4,h5,h6,h7,h8⟩:=hd
 have ho:s.heap.get? a=some o:=(show ObjOk X.prog X.w H s.heap a (setAt a o)from I.hok a _ ha).1
 refine a6G hu I L (fun E Q' hq=> ?_) h7 h8 hz hs q
 exact collect_set (A:=X.A.in1) (by simpa using I.ok.hd hc) ⟨o,ho,h1.1,h2⟩ h3 h4 h5 h6 fun s1 out k1 _ g1 o1 pm=>hq s1 out k1 g1 o1 pm
def b8U (w:World)(K:Fr'):List V→Hp→VK→Prop:=fun xs H Q=> ∃O a o ds',xs=[.ref a]∧H a=some (setAt a o)∧aF5 w K (hide H O) o ds'∧Q (.int ds'.length) H
end
end Fz
namespace Fz
open PySem PySem.Spec L2
variable [aa0] [FnT]
structure Off (O:List Addr)(H H':Hp):Prop where
 ex:Ex (hide H O) H'
 tab:LamX.Tabs aa0.T H→LamX.Tabs aa0.T H'
theorem Off.after {O:List Addr}{H H1 H':Hp}(e:Same H H1)(h:Off O H1 H'):Off O H H':=⟨e.hide.trans h.ex,fun t=>h.tab (e.tab t)⟩
theorem Off.of {O:List Addr}{H H':Hp}(L:ab3 H O)(h:Same (hide H O) H'):Off O H H':=⟨h.ex,fun t=>h.tab (au7 L t)⟩
theorem Off.from {O:List Addr}{Hb H H':Hp}(sb:Same Hb (hide H O))(h:Off O H H'):Same Hb H':=⟨sb.ex.trans h.ex,fun t=>h.tab (ay2.tab (sb.tab t))⟩
def Ans {α β:Type}(C:Nat→Addr)(W:WX)(O:List Addr)(H:Hp)(σ:St)(rel:Hp→β→α→Prop)(Q:β→Hp→Prop):R α→Prop
 | .ok a=> ∀b H',Same H H'→rel H' b a→Q b H'
 | .ex c=> ∀H',Off O H H'→W (.ref (C c)) none σ H'
 | .no=>False
def tR {α β:Type}(K:Fr')(C:Nat→Addr)(W:WX)(rel:List Addr→Hp→β→α→Prop)(r:Sd→R α):St→Hp→(β→Hp→Prop)→Prop:=
 fun σ H Q=> ∃O τ,RS K O H σ τ∧Ans C W O H σ (rel O) Q (r τ)
def rS (K:Fr')(O:List Addr)(H:Hp)(v:V)(d:D):Prop:=Rp K (hide H O) v d
def rP (K:Fr')(O:List Addr)(H:Hp)(v:V)(d:D):Prop:=Vd K O H v d
def rM (K:Fr')(m:Bool):List Addr→Hp→V→D→Prop:=if m=true then rS K else rP K
def rA (K:Fr')(O:List Addr)(H:Hp)(vs:List V)(ds:List D):Prop:=aa1 K (hide H O) vs ds
def rB (O:List Addr)(H:Hp)(b c:Bool):Prop:=b=c
section
variable {α β γ δ:Type} {C:Nat→Addr} {W:WX} {O:List Addr} {H H1:Hp} {σ:St} {K:Fr'}
theorem Ans.mono {rel:Hp→β→α→Prop}{Q:β→Hp→Prop}{r:R α}(h:Ans C W O H σ rel Q r)(e:Same H H1):Ans C W O H1 σ rel Q r:=by
 cases r with
 |ok a=>exact fun b H' e' q=>h b H' (e.trans e') q
 |ex c=>exact fun H' e'=>h H' (e'.after e)
 |no=>exact h
theorem Ans.step {rel:Hp→β→α→Prop}{Q:β→Hp→Prop}{rel1:Hp→δ→γ→Prop}{Q1:δ→Hp→Prop}{ra:R γ}{k:γ→R α}(h:Ans C W O H σ rel Q (ra.bind k))
  (f: ∀a b H1,Same H H1→rel1 H1 b a→Ans C W O H1 σ rel Q (k a)→Q1 b H1):Ans C W O H σ rel1 Q1 ra:=by
 cases ra with
 |ok a=>exact fun b H' e q=>f a b H' e q (Ans.mono h e)
 |ex c=>exact h
 |no=>exact h
theorem Ans.imp {rel rel1:Hp→β→α→Prop}{Q Q1:β→Hp→Prop}{r:R α}(h:Ans C W O H σ rel Q r)(f: ∀b a H1,Same H H1→rel1 H1 b a→(rel H1 b a→Q b H1)→Q1 b H1):Ans C W O H σ rel1 Q1 r:=by
 cases r with
 |ok a=>exact fun b H' e q=>f b a H' e q fun z=>h b H' e z
 |ex c=>exact h
 |no=>exact h
theorem ad1 {m:Bool}{v:V}{d:D}(h:Rp K (hide H O) v d):rM K m O H v d:=by
 cases m
 ·exact .inl h
 ·exact h
theorem ac0 {m:Bool}{v:V}{d:D}(h:rM K m O H v d):Vd K O H v d:=by
 cases m
 ·exact h
 ·exact .inl h
end
section
variable {X:Cx} {C:Nat→Addr} {W:WX}
abbrev PEx (X:Cx)(C:Nat→Addr)(W:WX)(m:Bool)(e:Expr)(r:Sd→R D):Prop:=PE X e (tR X.K C W (rM X.K m) r)
abbrev PAx (X:Cx)(C:Nat→Addr)(W:WX)(e:List Expr)(r:Sd→R (List D)):Prop:=PA X e (tR X.K C W (rA X.K) r)
abbrev PTx (X:Cx)(C:Nat→Addr)(W:WX)(e:Expr)(r:Sd→R Bool):Prop:=PT X e (tR X.K C W rB r)
theorem _root_.L2.PE.aa7 {e:Expr}{t u:TE}(h:PE X e t)(f: ∀σ H Q,u σ H Q→t σ H Q):PE X e u:=⟨fun pins s σ H Q I q=>h.run pins s σ H Q I (f σ H Q q)⟩
theorem _root_.L2.PT.aa7 {e:Expr}{t u:TT}(h:PT X e t)(f: ∀σ H Q,u σ H Q→t σ H Q):PT X e u:=⟨fun pins s σ H Q I q=>h.run pins s σ H Q I (f σ H Q q)⟩
theorem _root_.L2.PW.aa7 {e:Expr}{t u:TT}(h:PW X e t)(f: ∀σ H Q,u σ H Q→t σ H Q):PW X e u:=⟨fun wh pins s σ H Q I q=>h.run wh pins s σ H Q I (f σ H Q q)⟩
theorem _root_.L2.PA.aa7 {e:List Expr}{t u:TA}(h:PA X e t)(f: ∀σ H Q,u σ H Q→t σ H Q):PA X e u:=⟨fun p pins s σ H Q I q=>h.run p pins s σ H Q I (f σ H Q q)⟩
theorem _root_.L2.PS.aa7 {e:Stmt}{t u:TS}(h:PS X e t)(f: ∀D σ H,u D σ H→t D σ H):PS X e u:=⟨fun pins s σ H D I q=>h.run pins s σ H D I (f D σ H q)⟩
theorem _root_.L2.PSs.aa7 {e:List Stmt}{t u:TS}(h:PSs X e t)(f: ∀D σ H,u D σ H→t D σ H):PSs X e u:=⟨fun pins s σ H D I q=>h.run pins s σ H D I (f D σ H q)⟩
theorem _root_.L2.PG.aa7 {e:Expr}{t u:TG}(h:PG X e t)(f: ∀v σ H Q,u v σ H Q→t v σ H Q):PG X e u:=⟨fun pins s σ H v w Q I r q=>h.run pins s σ H v w Q I r (f v σ H Q q)⟩
theorem _root_.L2.PI.aa7 {tg e:Expr}{t u:TI}(h:PI X tg e t)(f: ∀σ H Q,u σ H Q→t σ H Q):PI X tg e u:=⟨fun pins s σ H Q I q=>h.run pins s σ H Q I (f σ H Q q)⟩
theorem bE6 {m:Bool}{e:Expr}{r:Sd→R D}(h:PEx X C W true e r):PEx X C W m e r:=
 h.aa7 fun σ H Q ⟨O,τ,rs,a⟩=>⟨O,τ,rs,a.imp fun b d H1 _ z f=>f (ad1 z)⟩
theorem b8W {m:Bool}{i:Nat}{x:Str}{pos:Pos}(hN:X.N[i]? =some x)(hv:Vis X.env.scope x)(hd:(x==("__debug__":Str))=false)(hcd:(x==("__classdict__":Str))=false):
  PEx X C W m (.Name x pos) (fun τ=>look τ i):=
 (pe_var hN hv hd hcd).aa7 fun σ H Q ⟨O,τ,rs,a⟩=>by
  replace a:Ans C W O H σ (rM X.K m O) Q (look τ i):=a
  unfold look at a
  split at a
  ·rename_i d e
   obtain⟨v,h1,h2⟩:=rs.val i d e
   exact⟨v,h1,a v H (Same.refl _) (ad1 h2)⟩
  ·exact a.elim
theorem aS9 {m:Bool}{e:Expr}{v:V}{d:D}(h:PE X e (tC v))(hr: ∀H,Rp X.K H v d):PEx X C W m e (fun _=> .ok d):=
 h.aa7 fun σ H Q ⟨O,τ,rs,a⟩=>a v H (Same.refl _) (ad1 (hr _))
theorem two {ra rb:Sd→R D}{g:D→D→R D}{m ma mb:Bool}(hg: ∀x y c,g x y≠ .ex c){σ:St}{H:Hp}{Q:VK}
  (h:tR X.K C W (rM X.K m) (fun τ=>(ra τ).bind fun x=>(rb τ).bind fun y=>g x y) σ H Q):
  tOp (r2 X.K g) (tR X.K C W (rM X.K ma) ra) (tR X.K C W (rM X.K mb) rb) σ H Q:=by
 obtain⟨O,τ,rs,a⟩:=h
 refine⟨O,τ,rs,a.step fun x v H1 e1 v1 a1=>⟨O,τ,rs.mono e1,a1.step fun y u H2 e2 v2 a2=> ?_⟩⟩
 cases hz:g x y with
 |ok d=>
  rw[hz]at a2
  exact⟨O,x,y,d,(rs.mono (e1.trans e2)).lst,(ac0 v1).mono e2,ac0 v2,hz,fun w H' e q=>a2 w H' e (ad1 q)⟩
 |ex c=>exact absurd hz (hg x y c)
 |no=>rw[hz]at a2;exact a2.elim
variable {a b c:Expr} {ra rb rc:Sd→R D} {pos:Pos}
theorem b8X {op:Operator}{g:D→D→R D}{m ma mb:Bool}(ho:OpR X (binaryOp op) (r2 X.K g))(hg: ∀x y c,g x y≠ .ex c)(ha:PEx X C W ma a ra)(hb:PEx X C W mb b rb):
  PEx X C W m (.BinOp a op b pos) (fun τ=>(ra τ).bind fun x=>(rb τ).bind fun y=>g x y):=
 (pe_op ho ha hb).aa7 fun σ H Q h=>two hg h
theorem b80 {op:CmpOp}{g:D→D→R D}{m ma mb:Bool}(ho:OpR X (compareOp op) (r2 X.K g))(hg: ∀x y c,g x y≠ .ex c)(ha:PEx X C W ma a ra)(hb:PEx X C W mb b rb)(hm:behindInMarks op b=false):
  PEx X C W m (.Compare a [op] [b] pos) (fun τ=>(ra τ).bind fun x=>(rb τ).bind fun y=>g x y):=
 (pe_cmpR ho ha hb hm).aa7 fun σ H Q h=>two hg h
theorem b81 {m ma mb:Bool}{g:D→D→R D}(ho:IxR X (r2 X.K g))(hg: ∀x y c,g x y≠ .ex c)(ha:PEx X C W ma a ra)(hb:PEx X C W mb b rb)(hs:PlainIx b):
  PEx X C W m (.Subscript a b pos) (fun τ=>(ra τ).bind fun x=>(rb τ).bind fun y=>g x y):=
 (pe_ix ho ha hb hs).aa7 fun σ H Q h=>two hg h
theorem b82 {op:CmpOp}{g:D→D→R D}{ma mb:Bool}(ho:OpR X (compareOp op) (r2 X.K g))(hg: ∀x y c,g x y≠ .ex c)(ha:PEx X C W ma a ra)(hb:PEx X C W mb b rb)(hm:behindInMarks op b=false):
  PTx X C W (.Compare a [op] [b] pos) (fun τ=>((ra τ).bind fun x=>(rb τ).bind fun y=>g x y).bind asB):=by
 refine(pt_cmpR ho ha hb hm).aa7 fun σ H Q h=> ?_
 obtain⟨O,τ,rs,h⟩:=h
 refine two (m:=true) (g:=g) hg ⟨O,τ,rs,Ans.step h fun d v H1 e r z=> ?_⟩
 cases d<;>try exact z.elim
 rename_i k
 cases Rp.aq9 r
 exact⟨k,rfl,z k H1 (Same.refl _) rfl⟩
theorem b88 {e:Expr}{r:Sd→R D}(h:PEx X C W true e r)(he: ∀whole,isTrue e X.env whole=(do let v←whole;standAt e.pos;holding [v] (truthy v))):
  PTx X C W e (fun τ=>(r τ).bind asB):=by
 refine(pt_val h he).aa7 fun σ H Q hh=> ?_
 obtain⟨O,τ,rs,hh⟩:=hh
 refine⟨O,τ,rs,Ans.step hh fun d v H1 e r z=> ?_⟩
 cases d<;>try exact z.elim
 rename_i k
 cases Rp.aq9 r
 exact⟨k,rfl,z k H1 (Same.refl _) rfl⟩
theorem b9a {r:Sd→R Bool}(h:PTx X C W a r):PTx X C W (.UnaryOp .Not a pos) (fun τ=>(r τ).bind fun k=> .ok !k):=by
 refine(pt_not h).aa7 fun σ H Q hh=> ?_
 obtain⟨O,τ,rs,hh⟩:=hh
 refine⟨O,τ,rs,Ans.step hh fun k b H1 e r z=> ?_⟩
 cases r
 exact z _ H1 (Same.refl _) rfl
theorem b9b {m:Bool}(h:PEx X C W true a ra):PEx X C W m (.UnaryOp .Not a pos) (fun τ=>(ra τ).bind (o1 .nt)):=by
 refine(pe_not h).aa7 fun σ H Q hh=> ?_
 obtain⟨O,τ,rs,hh⟩:=hh
 refine⟨O,τ,rs,Ans.step hh fun d v H1 e r z=> ?_⟩
 cases d<;>try exact z.elim
 rename_i k
 cases Rp.aq9 r
 exact⟨k,rfl,z _ H1 (Same.refl _) (ad1 (.bl _))⟩
theorem b9c {m:Bool}(h:PEx X C W true a ra):PEx X C W m (.UnaryOp .USub a pos) (fun τ=>(ra τ).bind (o1 .neg)):=by
 refine(pe_un un_neg h).aa7 fun σ H Q hh=> ?_
 obtain⟨O,τ,rs,hh⟩:=hh
 refine⟨O,τ,rs,Ans.step hh fun d v H1 e r z=> ?_⟩
 cases d<;>try exact z.elim
 rename_i k
 cases Rp.a6k r
 exact⟨k,rfl,z _ H1 (Same.refl _) (ad1 (.int _))⟩
theorem b9d {m:Bool}{rt:Sd→R Bool}{e1 e2:Expr}{r1 r2:Sd→R D}(hc:PTx X C W c rt)(h1:PEx X C W m e1 r1)(h2:PEx X C W m e2 r2):
  PEx X C W m (.IfExp c e1 e2 pos) (fun τ=>(rt τ).bind fun k=>if k=true then r1 τ else r2 τ):=by
 refine(pe_ifExp hc h1 h2).aa7 fun σ H Q hh=> ?_
 obtain⟨O,τ,rs,hh⟩:=hh
 refine⟨O,τ,rs,Ans.step hh fun k k' H1 e r z=> ?_⟩
 cases r
 cases k
 ·exact⟨O,τ,rs.mono e,z⟩
 ·exact⟨O,τ,rs.mono e,z⟩
variable {rest:List Expr}
theorem bE7 {op:BoolOp}{m:Bool}(h:PEx X C W true a ra):PEx X C W m (.BoolOp op [a] pos) (fun τ=>(ra τ).bind fun x=>(asB x).bind fun k=> .ok (.bool k)):=by
 refine(pe_one (pos:=pos) h).aa7 fun σ H Q hh=> ?_
 obtain⟨O,τ,rs,hh⟩:=hh
 refine⟨O,τ,rs,Ans.step hh fun d v H1 e r z=> ?_⟩
 cases d<;>try exact z.elim
 exact z v H1 (Same.refl _) (ad1 r)
theorem b9f {m:Bool}{rr:Sd→R D}(h:PEx X C W true a ra)(h2:PEx X C W m (.BoolOp .And (b::rest) pos) rr):
  PEx X C W m (.BoolOp .And (a::b::rest) pos) (fun τ=>(ra τ).bind fun x=>(asB x).bind fun k=>if k=true then rr τ else .ok (.bool false)):=by
 refine(pe_and h h2).aa7 fun σ H Q hh=> ?_
 obtain⟨O,τ,rs,hh⟩:=hh
 refine⟨O,τ,rs,Ans.step hh fun d v H1 e r z=> ?_⟩
 cases d<;>try exact z.elim
 rename_i k
 cases Rp.aq9 r
 refine⟨k,rfl,?_⟩
 cases k
 ·exact z _ H1 (Same.refl _) (ad1 (.bl _))
 ·exact⟨O,τ,rs.mono e,z⟩
theorem b9h {m:Bool}{rr:Sd→R D}(h:PEx X C W true a ra)(h2:PEx X C W m (.BoolOp .Or (b::rest) pos) rr):
  PEx X C W m (.BoolOp .Or (a::b::rest) pos) (fun τ=>(ra τ).bind fun x=>(asB x).bind fun k=>if k=true then .ok (.bool true)else rr τ):=by
 refine(pe_or h h2).aa7 fun σ H Q hh=> ?_
 obtain⟨O,τ,rs,hh⟩:=hh
 refine⟨O,τ,rs,Ans.step hh fun d v H1 e r z=> ?_⟩
 cases d<;>try exact z.elim
 rename_i k
 cases Rp.aq9 r
 refine⟨k,rfl,?_⟩
 cases k
 ·exact⟨O,τ,rs.mono e,z⟩
 ·exact z _ H1 (Same.refl _) (ad1 (.bl _))
abbrev PWx (X:Cx)(C:Nat→Addr)(W:WX)(e:Expr)(r:Sd→R Bool):Prop:=PW X e (tR X.K C W rB r)
theorem b9j {r:Sd→R Bool}(h:PTx X C W a r):PWx X C W (.BoolOp .And [a] pos) r:=pw_and1 h
theorem b9l {r:Sd→R Bool}(h:PTx X C W a r):PWx X C W (.BoolOp .Or [a] pos) r:=pw_or1 h
theorem b9n {r rr:Sd→R Bool}(h:PTx X C W a r)(h2:PWx X C W (.BoolOp .And (b::rest) pos) rr):
  PWx X C W (.BoolOp .And (a::b::rest) pos) (fun τ=>(r τ).bind fun k=>if k=true then rr τ else .ok false):=by
 refine(pw_and h h2).aa7 fun σ H Q hh=> ?_
 obtain⟨O,τ,rs,hh⟩:=hh
 refine⟨O,τ,rs,Ans.step hh fun k k' H1 e r z=> ?_⟩
 cases r
 cases k
 ·exact z _ H1 (Same.refl _) rfl
 ·exact⟨O,τ,rs.mono e,z⟩
theorem b9o {r rr:Sd→R Bool}(h:PTx X C W a r)(h2:PWx X C W (.BoolOp .Or (b::rest) pos) rr):
  PWx X C W (.BoolOp .Or (a::b::rest) pos) (fun τ=>(r τ).bind fun k=>if k=true then .ok true else rr τ):=by
 refine(pw_or h h2).aa7 fun σ H Q hh=> ?_
 obtain⟨O,τ,rs,hh⟩:=hh
 refine⟨O,τ,rs,Ans.step hh fun k k' H1 e r z=> ?_⟩
 cases r
 cases k
 ·exact⟨O,τ,rs.mono e,z⟩
 ·exact z _ H1 (Same.refl _) rfl
def chR (g g':D→D→R D)(ra rb rc:Sd→R D):Sd→R D:=fun τ=>(ra τ).bind fun x=>(rb τ).bind fun y=>(g x y).bind fun z=>(asB z).bind fun k=>
 if k=true then(rc τ).bind fun w=>g' y w else .ok (.bool false)
theorem bE9 {g g':D→D→R D}{m ma mb mc:Bool}(hg: ∀x y c,g x y≠ .ex c)(hg': ∀x y c,g' x y≠ .ex c){σ:St}{H:Hp}{Q:VK}
  (h:tR X.K C W (rM X.K m) (chR g g' ra rb rc) σ H Q):
  tChain (r2 X.K g) (r2 X.K g') (tR X.K C W (rM X.K ma) ra) (tR X.K C W (rM X.K mb) rb) (tR X.K C W (rM X.K mc) rc) σ H Q:=by
 obtain⟨O,τ,rs,a⟩:=h
 refine⟨O,τ,rs,a.step fun x v H1 e1 v1 a1=>⟨O,τ,rs.mono e1,a1.step fun y u H2 e2 v2 a2=> ?_⟩⟩
 cases hz:g x y with
 |ex c=>exact absurd hz (hg x y c)
 |no=>rw[hz]at a2;exact a2.elim
 |ok d=>
  rw[hz]at a2
  refine⟨O,x,y,d,(rs.mono (e1.trans e2)).lst,(ac0 v1).mono e2,ac0 v2,hz,fun w H3 e3 q=> ?_⟩
  cases d<;>try exact a2.elim
  rename_i k
  cases Rp.aq9 q
  refine⟨k,rfl,?_⟩
  cases k
  ·exact a2 _ H3 e3 (ad1 (.bl _))
  ·refine⟨O,τ,rs.mono ((e1.trans e2).trans e3),Ans.step (Ans.mono a2 e3) fun z' w' H4 e4 v4 a4=> ?_⟩
   cases hz':g' y z' with
   |ex c=>exact absurd hz' (hg' y z' c)
   |no=>rw[hz']at a4;exact a4.elim
   |    ok d'=>
        rw[hz']at a4
        exact⟨O,y,z',d',(rs.mono (((e1.trans e2).trans e3).trans e4)).lst,(ac0 v2).mono (e3.trans e4),ac0 v4,hz',fun w H' e q=>a4 w H' e (ad1 q)⟩
theorem b9p {op op':CmpOp}{g g':D→D→R D}{m ma mb mc:Bool}(ho:OpR X (compareOp op) (r2 X.K g))(ho':OpR X (compareOp op') (r2 X.K g'))(hg: ∀x y c,g x y≠ .ex c)(hg': ∀x y c,g' x y≠ .ex c)
  (ha:PEx X C W ma a ra) (hb:PEx X C W mb b rb) (hc:PEx X C W mc c rc) (hm:lastMarks [op,op'] [b,c]=false):PEx X C W m (.Compare a [op,op'] [b,c] pos) (chR g g' ra rb rc):=
 (pe_chain ho ho' ha hb hc hm).aa7 fun σ H Q h=>bE9 hg hg' h
theorem b9q {op op':CmpOp}{g g':D→D→R D}{ma mb mc:Bool}(ho:OpR X (compareOp op) (r2 X.K g))(ho':OpR X (compareOp op') (r2 X.K g'))(hg: ∀x y c,g x y≠ .ex c)(hg': ∀x y c,g' x y≠ .ex c)
  (ha:PEx X C W ma a ra) (hb:PEx X C W mb b rb) (hc:PEx X C W mc c rc) (hm:lastMarks [op,op'] [b,c]=false):PTx X C W (.Compare a [op,op'] [b,c] pos) (fun τ=>(chR g g' ra rb rc τ).bind asB):=by
 refine(pt_chain ho ho' ha hb hc hm).aa7 fun σ H Q h=> ?_
 obtain⟨O,τ,rs,h⟩:=h
 refine bE9 (m:=true) hg hg' ⟨O,τ,rs,Ans.step h fun d v H1 e r z=> ?_⟩
 cases d<;>try exact z.elim
 rename_i k
 cases Rp.aq9 r
 exact⟨k,rfl,z k H1 (Same.refl _) rfl⟩
theorem b9u:PAx X C W [] (fun _=> .ok []):=pa_nil.aa7 fun σ H Q ⟨O,τ,rs,h⟩=>h [] H (Same.refl _) .nil
theorem b9w {es:List Expr}{rr:Sd→R (List D)}(h:PEx X C W true a ra)(h2:PAx X C W es rr)(hs:starEach (a::es) X.env=(false,eval a X.env)::starEach es X.env):
  PAx X C W (a::es) (fun τ=>(ra τ).bind fun x=>(rr τ).bind fun xs=> .ok (x::xs)):=by
 refine(pa_cons h h2 hs).aa7 fun σ H Q hh=> ?_
 obtain⟨O,τ,rs,hh⟩:=hh
 refine⟨O,τ,rs,Ans.step hh fun d v H1 e r z=>⟨O,τ,rs.mono e,Ans.step z fun ds vs H2 e2 r2 z2=> ?_⟩⟩
 exact z2 _ H2 (Same.refl _) (.cons (Rp.mono (Same.hide e2) r) r2)
variable {es:List Expr} {rr:Sd→R (List D)}
theorem b9y {m:Bool}{x1:Nat}(h:PAx X C W es rr)(hl:es.length≤sizeLine)(hr: ∀τ ds,rr τ= .ok ds→ds.length=es.length):PEx X C W m (.Tuple es x1 pos) (fun τ=>(rr τ).bind fun ds=> .ok (.tuple ds)):=by
 refine(b7C h).aa7 fun σ H Q hh=> ?_
 obtain⟨O,τ,rs,hh⟩:=hh
 refine⟨O,τ,rs,?_⟩
 dsimp only at hh
 cases hz:rr τ with
 |ex c=>rw[hz]at hh;exact hh
 |no=>rw[hz]at hh;exact hh
 |ok ds=>
  rw[hz]at hh
  intro vs H1 e r
  have n1:=hr τ ds hz
  have n2:=aa1.length r
  exact⟨by omega,fun p o hp ho=>hh _ _ (e.trans (ab2 hp)) (ad1 (av1 (rs.mono e).lst hp ho r (by omega)))⟩
def rF (K:Fr')(O:List Addr)(H0:Hp):Hp→V→D→Prop:=fun H' v d=>
 (∃p vs xs,v= .ref p∧d= .list xs∧Fr H0 p∧H' p=some (.lst vs)∧aa1 K (hide H' (p::O)) vs xs∧xs.length≤sizeLine)∨ ∃p kvs,v= .ref p∧d= .dict kvs∧Fr H0 p∧aj2 K (p::O) H' p kvs
def tF (K:Fr')(C:Nat→Addr)(W:WX)(r:Sd→R D):TE:=fun σ H Q=> ∃O τ,RS K O H σ τ∧Ans C W O H σ (rF K O H) Q (r τ)
abbrev PFx (X:Cx)(C:Nat→Addr)(W:WX)(e:Expr)(r:Sd→R D):Prop:=PE X e (tF X.K C W r)
theorem bF0 {K:Fr'}{O:List Addr}{H0 H:Hp}{v:V}{d:D}(L:ab3 H0 O)(h:rF K O H0 H v d):Rp K (hide H O) v d:=by
 rcases h with⟨p,vs,xs,rfl,rfl,h1,h2,h3,h4⟩|⟨p,kvs,rfl,rfl,h1,hd⟩
 ·have hO:p∉O:=fun h=>by
   obtain⟨ws,q,hq⟩:=L p h
   exact h1.hid q hq
  exact .lst (.of (by rw[ac1 hO];exact h2)) (h3.mono (ah4 fun a h=>List.mem_cons_of_mem _ h).ex) h4
 ·have hO:p∉O:=fun h=>by
   obtain⟨ws,q,hq⟩:=L p h
   exact h1.hid q hq
  obtain⟨h0,o,xs,vs,h1,h2,h3,h4,h5,h6,h7,h8,h9⟩:=hd
  have e:=(ah4 (H:=H) fun a (h:a∈O)=>List.mem_cons_of_mem p h).ex
  exact .dct (by rw[ac1 hO];exact h1) h2 h3 h4 h5 (h6.mono e) h7 (h8.mono e) h9
theorem a6L {m:Bool}{e:Expr}{r:Sd→R D}(h:PFx X C W e r):PEx X C W m e r:=
 h.aa7 fun σ H Q ⟨O,τ,rs,a⟩=>⟨O,τ,rs,a.imp fun b d H1 _ z f=>f (ad1 (bF0 rs.lst z))⟩
theorem bF2 {H:Hp}{O:List Addr}{p:Addr}{o:HO}(hp:H p=none):hide (upd H p o) (p::O)=hide H O:=by
 funext b
 by_cases hb:b=p
 ·subst hb
  rw[am9 List.mem_cons_self,aF1 hp]
 ·by_cases hO:b∈O
  ·rw[am9 (List.mem_cons_of_mem _ hO),am9 hO]
  ·rw[ac1 (by simp[hb,hO]),ac1 hO,upd_ne hb]
theorem aK6 {K:Fr'}{O:List Addr}{H0 H:Hp}{p:Addr}{vs:List V}{xs:List D}(e:Same H0 H)(hp:H p=none)(r:aa1 K (hide H O) vs xs)(z:xs.length≤sizeLine):rF K O H0 (upd H p (.lst vs)) (.ref p) (.list xs):=
 .inl ⟨p,vs,xs,rfl,rfl,e.ex.free (.of hp),upd_same,by rw[bF2 hp];exact r,z⟩
theorem a6M (h:PAx X C W es rr)(hl:es.length≤sizeLine)(hr: ∀τ ds,rr τ= .ok ds→ds.length=es.length):PFx X C W (.List es pos) (fun τ=>(rr τ).bind fun ds=> .ok (.list ds)):=by
 refine(pe_lst h).aa7 fun σ H Q hh=> ?_
 obtain⟨O,τ,rs,hh⟩:=hh
 refine⟨O,τ,rs,?_⟩
 dsimp only at hh
 cases hz:rr τ with
 |ex c=>rw[hz]at hh;exact hh
 |no=>rw[hz]at hh;exact hh
 |ok ds=>
  rw[hz]at hh
  intro vs H1 e r
  have n1:=hr τ ds hz
  have n2:=aa1.length r
  exact⟨by omega,fun p hp=>hh _ _ (e.trans (ab2 hp)) (aK6 e hp r (by omega))⟩
theorem one {g:D→R D}{m ma:Bool}(hg: ∀x c,g x≠ .ex c){σ:St}{H:Hp}{Q:VK}
  (h:tR X.K C W (rM X.K m) (fun τ=>(ra τ).bind g) σ H Q):tCB (r1 X.K g) (tCons (tR X.K C W (rM X.K ma) ra) tNil) σ H Q:=by
 obtain⟨O,τ,rs,h⟩:=h
 refine⟨O,τ,rs,Ans.step h fun d v H1 e r z=> ?_⟩
 cases hz:g d with
 |ex c=>exact absurd hz (hg d c)
 |no=>rw[hz]at z;exact z.elim
 |ok d'=>
  rw[hz]at z
  exact⟨O,v,d,d',rfl,(rs.mono e).lst,ac0 r,hz,fun w H' e q=>z w H' e (ad1 q)⟩
theorem ay9 {g:D→R D}{m ma:Bool}{x:Str}{p:Pos}{id:String}(hc:CallR X (.builtin id) (r1 X.K g))(hg: ∀x c,g x≠ .ex c)(hgl:Gl X x)(hm:X.mg x=none)(hv:bootBuiltins x=some (.builtin id))(ha:PEx X C W ma a ra)
  (hs:starEach [a] X.env=(false,eval a X.env)::starEach [] X.env) (hn:x≠"__name__":=by decide) (hdb:(x==("__debug__":Str))=false:=by decide):
  PEx X C W m (.Call (.Name x p) [a] [] pos) (fun τ=>(ra τ).bind g):=
 (pe_callB hc hgl hm hv (pa_cons ha pa_nil hs) hn hdb hs rfl).aa7 fun σ H Q h=>one hg h
theorem a2s {g:D→R D}{m ma:Bool}{x:Str}{p:Pos}{T:String}(hc:CallR X (.type T) (r1 X.K g))(hg: ∀x c,g x≠ .ex c)(hgl:Gl X x)(hm:X.mg x=none)(hv:bootBuiltins x=some (.type T))(ha:PEx X C W ma a ra)
  (hs:starEach [a] X.env=(false,eval a X.env)::starEach [] X.env) (hn:x≠"__name__":=by decide) (hdb:(x==("__debug__":Str))=false:=by decide):
  PEx X C W m (.Call (.Name x p) [a] [] pos) (fun τ=>(ra τ).bind g):=
 (pe_callTy hc hgl hm hv (pa_cons ha pa_nil hs) hn hdb hs rfl).aa7 fun σ H Q h=>one hg h
end
end Fz
namespace Fz
open PySem PySem.Spec PyProof.Rows L2
inductive Sc where
 |l (a:Addr)|t (a:Addr)|s (x:Str)
def Sc.v:Sc→V
 | .l a=> .ref a
 | .t a=> .ref a
 | .s x=> .str x
def SqS (K:Fr')(H:Hp):Sc→List V→Prop
 | .l a,xs=>SqL K H a xs
 | .t a,xs=>SqT K H a xs
 | .s x,xs=>xs=x.cps.toList.map fun c=>V.str ⟨#[c]⟩
def Sc.fp:Sc→Addr→List Addr
 | .l a,it=>[it,a]
 | .t a,it=>[it,a]
 | .s _,it=>[it]
def Sc.old (n:Nat):Sc→Prop
 | .l a=>a<n
 | .t a=>a<n
 | .s _=>True
def StS (h:Heap):Sc→Addr→Nat→Prop
 | .l a,it,i=>h.IsListIter it a i
 | .t a,it,i=>h.IsTupleIter it a i
 | .s x,it,i=> ∃tk,h.IsStrIter it (strIterType x) x tk i
theorem StS.there {h:Heap}{c:Sc}{it:Addr}{i:Nat}(st:StS h c it i): ∃o,h.get? it=some o∧ ∀v,o.data≠ .cell v:=by
 cases c with
 |l a=>obtain⟨o,e,_,d⟩:=st;exact⟨o,e,fun v z=>by rw[d]at z;cases z⟩
 |t a=>obtain⟨o,e,_,d⟩:=st;exact⟨o,e,fun v z=>by rw[d]at z;cases z⟩
 |s x=>obtain⟨tk,o,e,_,d⟩:=st;exact⟨o,e,fun v z=>by rw[d]at z;cases z⟩
theorem StS.keep {h h':Heap}{c:Sc}{it:Addr}{i:Nat}(st:StS h c it i)(k: ∀o,h.get? it=some o→h'.get? it=some o):StS h' c it i:=by
 cases c with
 |l a=>obtain⟨o,e,r⟩:=st;exact⟨o,k o e,r⟩
 |t a=>obtain⟨o,e,r⟩:=st;exact⟨o,k o e,r⟩
 |s x=>obtain⟨tk,o,e,r⟩:=st;exact⟨tk,o,k o e,r⟩
theorem a6N {X:Cx}{pins:List (Addr×Obj)}{σ:L2.St}{H:Hp}{s:Shared}(I:Inv X pins σ H s){c:Sc}{xs ys:List V}(h1:SqS X.K H c xs)(h2:SqS X.K H c ys):xs=ys:=by
 cases c with
 |l a=>exact I.list_inj h1 h2
 |t a=>exact I.tuple_inj h1 h2
 |s x=>exact h1.trans h2.symm
theorem drw {X:Cx}{pins:List (Addr×Obj)}{σ:L2.St}{H:Hp}{s:Shared}(I:Inv X pins σ H s)(hh:X.A.in1.handled=none){c:Sc}{xs:List V}(q:SqS X.K H c xs){it:Addr}{i n:Nat}(st:StS s.heap c it i)(ho:c.old n)(hn:n≤it):
  ∃P St',Draws X.prog X.w X.A.in1 it (c.fp it) xs.length P St'∧St' i s.heap∧(∀j w x,P j w→xs[j]? =some x→RelV x w)∧ ∀j h,St' j h→StS h c it j:=by
 cases c with
 |l a=>
  obtain⟨us,r,p,_⟩:=I.list q
  have hl:xs.length=us.toArray.size:=by rw[List.size_toArray];exact r.length
  refine⟨_,_,hl▸Draws.list hh it a (Nat.ne_of_lt (Nat.lt_of_lt_of_le ho hn)) us.toArray,⟨st,p.isList⟩,fun j w x h1 h2=> ?_,fun j h z=>z.1⟩
  obtain⟨u,k,v⟩:=r.get h2
  have:w=u:=by simp[k]at h1;exact h1.symm
  rw[this];exact v
 |t a=>
  obtain⟨us,r,p,_⟩:=I.tuple q
  have hl:xs.length=us.toArray.size:=by rw[List.size_toArray];exact r.length
  refine⟨_,_,hl▸Draws.tuple hh it a (Nat.ne_of_lt (Nat.lt_of_lt_of_le ho hn)) us.toArray,⟨st,p⟩,fun j w x h1 h2=> ?_,fun j h z=>z.1⟩
  obtain⟨u,k,v⟩:=r.get h2
  have:w=u:=by simp[k]at h1;exact h1.symm
  rw[this];exact v
 |s x=>
  obtain⟨tk,st⟩:=st
  have q':xs=x.cps.toList.map fun c=>V.str ⟨#[c]⟩:=q
  subst q'
  have hl:(x.cps.toList.map fun c=>V.str ⟨#[c]⟩).length=x.cps.size:=by rw[List.length_map,Array.length_toList]
  refine⟨_,_,hl▸Draws.text hh it x tk,st,fun j w z h1 h2=> ?_,fun j h z=>⟨tk,z⟩⟩
  obtain⟨c,u,h3,rfl⟩:=h1
  have:z=V.str ⟨#[c]⟩:=by
    rw[List.getElem?_map]at h2
    simp[h3]at h2
    exact h2.symm
  rw[this]
  exact⟨u,rfl⟩
theorem bgn {X:Cx}{pins:List (Addr×Obj)}{σ:L2.St}{H:Hp}{s:Shared}(I:Inv X pins σ H s){c:Sc}{xs:List V}(q:SqS X.K H c xs){u:Value}(r:RelV c.v u):
  ∃o Hq,Begins u o Hq∧Hq s.heap∧(∀h it,h.get? it=some o→StS h c it 0)∧c.old s.heap.objs.size:=by
 cases c with
 |l a=>
  cases r
  obtain⟨us,_,p,_⟩:=I.list q
  exact⟨_,_,begins_list a us.toArray,p.isList,fun h it e=>⟨_,e,rfl,rfl⟩,p.lt⟩
 |t a=>
  cases r
  obtain⟨us,_,p,_⟩:=I.tuple q
  exact⟨_,_,begins_tuple a us.toArray,p,fun h it e=>⟨_,e,rfl,rfl⟩,by obtain⟨_,z,_⟩:=id p;exact Heap.lt_size z⟩
 |s x=>
  obtain⟨tk,rfl⟩:=r
  exact⟨_,_,begins_text x tk,trivial,fun h it e=>⟨tk,_,e,rfl,rfl⟩,trivial⟩
def ItG (K:Fr')(c d:Sc):It where
 go:=fun i H=> ∃xs ys x y,(SqS K H c xs∧SqS K H d ys)∧xs[i]? =some x∧ys[i]? =some y
 yld:=fun i H v H'=> ∃(T:Addr) (x y:V) (o:Obj),v= .ref T∧H T=none∧H'=upd H T (.frz o (.tup [x,y]))∧o.dict=none∧ ∀xs ys,SqS K H c xs→SqS K H d ys→xs[i]? =some x∧ys[i]? =some y
 stop:=fun i H=> ∃xs ys,(SqS K H c xs∧SqS K H d ys)∧i=min xs.length ys.length
abbrev ae5 (n:Nat):List Addr:=[n+4,n+2,n+3,n,n+1]
def St2 (n:Nat)(c d:Sc)(i:Nat)(h:Heap):Prop:=IsZip h (n+4) (n+2) (n+3) .none∧IsTupOf2 h (n+2) (.ref n) (.ref (n+1))∧(∃u v,IsTupOf2 h (n+3) u v)∧StS h c n i∧StS h d (n+1) i
theorem bG0 {n:Nat}{c d:Sc}(hc:c.old n)(hd:d.old n):ZipSep2 (n+4) (n+2) (n+3) n (n+1) (c.fp n) (d.fp (n+1)):=by
 cases c<;>cases d<;>(refine⟨?_,?_,?_,?_,?_,?_,?_,?_,?_,?_,?_,?_,?_⟩ <;>simp[Addr,Sc.fp,Sc.old]at * <;>omega)
theorem bG1 {n:Nat}{q:Addr}(h:q∈ae5 n):q=n+4∨q=n+2∨q=n+3∨q=n∨q=n+1:=by simpa[ae5]using h
theorem St2.there {n i:Nat}{c d:Sc}{h:Heap}(st:St2 n c d i h): ∀q∈ae5 n,∃o,h.get? q=some o∧ ∀v,o.data≠ .cell v:=fun q hq=>by
 obtain⟨s1,s2,⟨u,v,s3⟩,s4,s5⟩:=st
 rcases bG1 hq with rfl|rfl|rfl|rfl|rfl
 ·exact⟨_,s1,nofun⟩
 ·exact⟨_,s2,nofun⟩
 ·exact⟨_,s3,nofun⟩
 ·exact s4.there
 ·exact s5.there
theorem St2.keep {n i:Nat}{c d:Sc}{h h':Heap}(st:St2 n c d i h)(k: ∀q∈ae5 n,∀o,h.get? q=some o→h'.get? q=some o):St2 n c d i h':=by
 obtain⟨s1,s2,⟨u,v,s3⟩,s4,s5⟩:=st
 exact⟨k _ (by simp[ae5]) _ s1,k _ (by simp[ae5]) _ s2,⟨u,v,k _ (by simp[ae5]) _ s3⟩,s4.keep (k _ (by simp[ae5])),s5.keep (k _ (by simp[ae5]))⟩
theorem turn2 {P:Program}{w:World}{K:Fr'}{elts:List Expr}{kk:Nat}{tpos:Pos}{n:Nat}{c d:Sc}(hc:c.old n)(hd:d.old n):
  Turn P w K (.Tuple elts kk tpos) (ItG K c d) (ae5 n) (n+4) (St2 n c d) where
 mem:=by simp
 obj:=fun i h st=>st.there
 keep:=fun i h h' st k=>st.keep k
 item:=by
  rintro X rfl rfl rfl calm i pins s σ H E I hf st ⟨xs,ys,x,y,⟨q1,q2⟩,g1,g2⟩
  obtain⟨s1,s2,⟨t1,t2,s3⟩,s4,s5⟩:=id st
  have hh:X.A.in1.handled=none:=I.ok.hd calm
  obtain⟨P1,S1,D1,u1,r1,b1⟩:=drw I hh q1 s4 hc (Nat.le_refl _)
  obtain⟨P2,S2,D2,u2,r2,b2⟩:=drw I hh q2 s5 hd (Nat.le_succ _)
  have l1:i<xs.length:=(List.getElem?_eq_some_iff.mp g1).1
  have l2:i<ys.length:=(List.getElem?_eq_some_iff.mp g2).1
  have hlt: ∀q∈ae5 n,q<s.heap.objs.size:=fun q hq=>by
   obtain⟨o,e,_⟩:=st.there q hq
   exact Heap.lt_size e
  refine wpAny_pyNext_zipD2_item (bG0 hc hd) D1 D2 s1 s2 s3 u1 u2 l1 l2 fun w1 w2 h1 tk e1 e2 z1 z2 d1 d2 z3 hsz hk=> ?_
  have v1:=r1 _ _ _ e1 g1
  have v2:=r2 _ _ _ e2 g2
  refine⟨_,rfl,wpAny_letOwnedTupleGo_zip (s:= { s with heap:=h1,toks:=tk }) z1 fun h2 z1' sb=> ?_⟩
  have hnew:s.heap.objs.size∉ae5 n:=fun hm=>Nat.lt_irrefl _ (hlt _ hm)
  have T2:h2.get? s.heap.objs.size=some { cls:= .type "tuple",data:= .seq #[w1,w2] }:=(sb.2 _ fun e=>hnew (by rw[e];simp[ae5])).trans z3
  let o:Obj:= { cls:= .type "tuple",data:= .seq #[w1,w2] }
  have J:Inv X pins σ (upd H s.heap.objs.size (.frz o (.tup [x,y]))) { s with heap:=h2,toks:=tk }:=
   I.turnedNew (ch:=ae5 n) (fun q o hq e=>(sb.2 q fun z=>hq (by rw[z];simp[ae5])).trans (hk q o (fun z=>hq (by rw[z];simp[ae5])) (fun z=>hq (by rw[z];simp[ae5])) (fun z=>hq (by rw[z];simp[ae5])) (fun z=>hq (by rw[z];simp[ae5])) e)) hf (Nat.le_refl _)
        ⟨T2,by show 2≤sizeLine;decide,[w1,w2],.cons v1 (.cons v2 .nil),⟨_,T2,rfl,_,rfl⟩⟩
  have ne4: ∀ {q:Addr},q≠n+4→ ∀ {o:Obj},h1.get? q=some o→h2.get? q=some o:=fun {q} hq {o} e=>(sb.2 q hq).trans e
  refine⟨.ref s.heap.objs.size,_,J,rfl,⟨_,x,y,o,rfl,I.hok.fresh (Nat.le_refl _),rfl,rfl,fun xs' ys' a1 a2=>⟨by rw[a6N I a1 q1];exact g1,by rw[a6N I a2 q2];exact g2⟩⟩,⟨z1',?_,⟨w1,w2,?_⟩,?_,?_⟩,fun q hq=> ?_⟩
  ·exact ne4 (by simp[Addr]) (hk _ _ (by simp[Addr]) (by simp[Addr]) (by simp[Addr]) (by simp[Addr]) s2)
  ·exact ne4 (by simp[Addr]) z2
  ·exact(b1 _ _ d1).keep fun o e=>ne4 (by simp[Addr]) e
  ·exact(b2 _ _ d2).keep fun o e=>ne4 (by simp[Addr]) e
  ·rw[upd_ne (Nat.ne_of_lt (hlt q hq))]
   exact(hf q hq).1
 done:=by
  rintro X rfl rfl rfl calm i pins s σ H E I hf st ⟨xs,ys,⟨q1,q2⟩,hi⟩
  obtain⟨s1,s2,⟨t1,t2,s3⟩,s4,s5⟩:=id st
  have hh:X.A.in1.handled=none:=I.ok.hd calm
  obtain⟨P1,S1,D1,u1,r1,b1⟩:=drw I hh q1 s4 hc (Nat.le_refl _)
  obtain⟨P2,S2,D2,u2,r2,b2⟩:=drw I hh q2 s5 hd (Nat.le_succ _)
  refine wpAny_pyNext_zipD2_end (bG0 hc hd) D1 D2 s1 s2 s3 u1 u2 (by omega) (by omega) (by omega) fun h1 tk hk=> ?_
  exact⟨rfl,I.turnedL (ch:=ae5 n) (fun q o hq e=>hk q o (fun z=>hq (by rw[z];simp[ae5])) (fun z=>hq (by rw[z];simp[ae5])) (fun z=>hq (by rw[z];simp[ae5])) (fun z=>hq (by rw[z];simp[ae5])) e) hf⟩
 self:=fun A i s Q E st h=>wpAny_pyIter_zip st.1 h
def b9z (K:Fr')(ta:TA):TI:=fun σ H Rr=>ta σ H fun vs H1=> ∃c d xs ys,vs=[c.v,d.v]∧SqS K H1 c xs∧SqS K H1 d ys∧Rr (ItG K c d) H1
theorem b9A {X:Cx}{e1 e2:Expr}{ta:TA}{p pos tpos:Pos}{elts:List Expr}{kk:Nat}(hg:Gl X "zip")(hm:X.mg "zip"=none)(ha:PA X [e1,e2] ta)
  (hs:starEach [e1,e2] X.env=(false,eval e1 X.env)::starEach [e2] X.env) (hpl:(backTo pos (starEach [e2] X.env)).any (·.1)=false):
  PI X (.Tuple elts kk tpos) (.Call (.Name "zip" p) [e1,e2] [] pos) (b9z X.K ta):=by
 refine⟨fun pins s σ H Rr I h=>Call_ (ld_blt I hg hm PyProof.Rows.boot_zip (PyProof.Rows.callWith_type1 (thn (ha.run pos pins s σ H _ I h) ?_) hs hpl))⟩
 rintro us s1 ⟨vs,H1,I1,rv,c,d,xs,ys,rfl,q1,q2,q⟩
 cases rv with
 |cons ra rv=>
 cases rv with
 |cons rb rv=>
 cases rv
 obtain⟨o1,Q1,B1,k1,m1,l1⟩:=bgn I1 q1 ra
 obtain⟨o2,Q2,B2,k2,m2,l2⟩:=bgn I1 q2 rb
 refine zip_begins2 B1 B2 k1 k2 fun h1 z1 z2 z3 z4 z5 hsz hk=>wpAny_pyIter_zip z1 ?_
 refine⟨s1.heap.objs.size+4,ae5 s1.heap.objs.size,_,_,H1,rfl,I1.kept (t':=s1.toks) hk,turn2 l1 l2,⟨z1,z2,⟨_,_,z3⟩,m1 _ _ z4,m2 _ _ z5⟩,fun d hd=> ?_,q⟩
 have hle:s1.heap.objs.size≤d:=by
  have:=bG1 hd
  simp only[Addr]at *
  omega
 exact I1.fpOk hle (I1.hok.fresh hle)
end Fz
namespace Fz
open PySem PySem.Spec PyProof.Rows L2
variable [aa0] [FnT]
set_option maxHeartbeats 1000000 in
theorem b9B {v:Value}{o:Obj}{H:Heap→Prop}(B:Begins v o H):
  Meets (Builtin.«enumerate.__new__» ⟨[.type "enumerate",v],[]⟩) (fun _ R s=>H s.heap∧
   R (.ok (.ret (.ref (s.heap.push o).objs.size))) { s with heap:=(s.heap.push o).push { cls:= .type "enumerate",data:= .fields #[.none,.bool false,.ref s.heap.objs.size,rawInt 0,.none,.none] } }):=
 .of_wp fun prog w A R s h=>by
  obtain⟨hp,g,d,tk,os⟩:=s;obtain⟨h1,h⟩:=h
  have hsub:=sub_enumerate
  have q1: ∀ {A':Around} {E:Value→Shared→Prop} {Q:Value→Shared→Prop},Q (.ref hp.objs.size) ⟨hp.push o,g,d,tk,os⟩→wpAny (model prog w) A' (pyIter v) Q E ⟨hp,g,d,tk,os⟩:=
   fun q=>B.iter prog w _ _ ⟨hp,g,d,tk,os⟩ _ h1 q
  wp_walk using q1
  refine wpAny_stack_any fun st=>wpAny_pure ?_
  split
  ·rename_i c _ _ _ _ _
   cases (c==Value.type "enumerate")
   ·    wp_walk using q1
        exact⟨_,rfl,h⟩
   ·    wp_walk using q1
        exact⟨_,rfl,h⟩
  ·wp_walk using q1
   exact⟨_,rfl,h⟩
section
variable {prog:Program} {w:World} {A:Around} {E:Value→Shared→Prop} {s:Shared}
theorem bG2 {v:Value}{o:Obj}{H:Heap→Prop}{Q:Value→Shared→Prop}(B:Begins v o H)(h1:H s.heap)
  (h: ∀h',IsEnum h' (s.heap.objs.size+1) s.heap.objs.size 0 .none→h'.get? s.heap.objs.size=some o→h'.objs.size=s.heap.objs.size+2→
   (∀b o,s.heap.get? b=some o→h'.get? b=some o)→Q (.ref (s.heap.objs.size+1)) { s with heap:=h' }):
  wpAny (model prog w) A (call (.type "enumerate") [v]) Q E s:=by
 refine callType_new F.called_enumerate (by decide) (F.typeCall_enumerate_1 _) (F.newCall_enumerate_1 _) (fun obj=>F.args_object_init_2 obj _) F.entry_enumerate_new
  (b9B B) ⟨h1,?_⟩
 have hz:(s.heap.push o).objs.size=s.heap.objs.size+1:=Heap.size_push ..
 show _∧_
 rw[hz]
 have he:IsEnum ((s.heap.push o).push { cls:= .type "enumerate",data:= .fields #[.none,.bool false,.ref s.heap.objs.size,rawInt 0,.none,.none] }) (s.heap.objs.size+1) s.heap.objs.size 0 .none:=by
  have:=Heap.get?_push_size (s.heap.push o) (o:= { cls:= .type "enumerate",data:= .fields #[.none,.bool false,.ref s.heap.objs.size,rawInt 0,.none,.none] }) rfl
  rw[hz]at this;exact this
 refine⟨⟨_,he,rfl⟩,h _ he (Heap.get?_push_of_some _ (Heap.get?_push_size _ B.free)) (by rw[Heap.size_push,hz]) fun b o x=>Heap.get?_push_of_some _ (Heap.get?_push_of_some _ x)⟩
end
def aT0 (xs ys:Nat→Option V):Nat→Hp→V→Hp→Prop:=fun i H v H'=> ∃(T:Addr) (x y:V) (o:Obj),v= .ref T∧H T=none∧H'=upd H T (.frz o (.tup [x,y]))∧o.dict=none∧xs i=some x∧ys i=some y
def a6P (K:Fr')(c:Sc):It:=
 ⟨fun i H=> ∃(xs:List V) (x:V),SqS K H c xs∧xs[i]? =some x,fun i H v H'=> ∃(T:Addr) (x:V) (o:Obj),v= .ref T∧H T=none∧H'=upd H T (.frz o (.tup [.int (i:Nat),x]))∧o.dict=none∧ ∀xs,SqS K H c xs→xs[i]? =some x,fun i H=> ∃xs:List V,SqS K H c xs∧i=xs.length⟩
theorem b9C {P:Program}{w:World}{K:Fr'}{elts:List Expr}{kk:Nat}{tpos:Pos}{c:Sc}{e it:Addr}(hc:c.old it):
  Turn P w K (.Tuple elts kk tpos) (a6P K c) [e,it] e (fun i h=>(∃old,IsEnum h e it ((i:Nat):Int) old)∧StS h c it i∧e≠it∧e∉c.fp it) where
 mem:=by simp
 obj:=fun i h st b hb=>by
  obtain⟨⟨old,he⟩,hs,_⟩:=st
  have e':b=e∨b=it:=by simpa using hb
  rcases e' with z|z
  ·rw[z];exact⟨_,he,fun v q=>nomatch q⟩
  ·rw[z];exact hs.there
 keep:=fun i h h' st k=>let⟨⟨old,he⟩,hs,hne⟩:=st;⟨⟨old,k e (by simp) _ he⟩,hs.keep fun o q=>k it (by simp) o q,hne⟩
 item:=by
  intro X hP hw hK hcm i pins s σ H E I hf st hg
  subst hP hw hK
  obtain⟨⟨old,he⟩,hs,hne,hef⟩:=st
  obtain⟨xs,x,hq,hx⟩:=hg
  obtain⟨P1,S1,D1,u1,r1,b1⟩:=drw I (I.ok.hd hcm) hq hs hc (Nat.le_refl _)
  have l1:i<xs.length:=(List.getElem?_eq_some_iff.mp hx).1
  have hel:e<s.heap.objs.size:=Heap.lt_size he
  have hil:it<s.heap.objs.size:=by obtain⟨o,q,_⟩:=hs.there;exact Heap.lt_size q
  refine wpAny_pyNext_enum_itemD D1 he u1 l1 hne hef fun u' h' tk hP ho hst' hT hsz hk=> ?_
  have ru:=r1 _ _ _ hP hx
  refine⟨_,rfl,wpAny_letOwnedTupleGo_enum (s:= { s with heap:=h',toks:=tk+1 }) ho fun h'' he' sb=> ?_⟩
  have hT2:h''.get? s.heap.objs.size=some { cls:= .type "tuple",data:= .seq #[.int i tk,u'] }:=(sb.2 _ (Nat.ne_of_gt hel)).trans hT
  let o:Obj:= { cls:= .type "tuple",data:= .seq #[.int i tk,u'] }
  have new:ObjOk X.prog X.w (upd H s.heap.objs.size (.frz o (.tup [.int (i:Nat),x]))) h'' s.heap.objs.size (.frz o (.tup [.int (i:Nat),x])):=
   ⟨hT2,by show 2≤sizeLine;decide,[.int i tk,u'],.cons ⟨_,rfl⟩ (.cons ru .nil),⟨_,hT2,rfl,_,rfl⟩⟩
  have I1:Inv X pins σ (upd H s.heap.objs.size (.frz o (.tup [.int (i:Nat),x]))) { s with heap:=h'',toks:=tk+1 }:=
   I.turnedNew (ch:=[e,it]) (fun b ob hb q=>(sb.2 b (fun z=>hb (by simp[z]))).trans (hk b ob (fun z=>hb (by simp[z])) (fun z=>hb (by simp[z])) q)) hf (Nat.le_refl _) new
  refine⟨.ref s.heap.objs.size,_,I1,rfl,⟨_,x,o,rfl,I.hok.fresh (Nat.le_refl _),rfl,rfl,fun ys hy=>by rw[a6N I hy hq];exact hx⟩,⟨⟨u',?_⟩,(b1 _ _ hst').keep fun o q=>(sb.2 it (Ne.symm hne)).trans q,hne,hef⟩,fun b hb=> ?_⟩
  ·have e1:((i+1:Nat):Int)=(i:Int)+1:=by omega
   rw[e1];exact he'
  ·have hb':b<s.heap.objs.size:=by
        have e':b=e∨b=it:=by simpa using hb
        rcases e' with z|z
        ·rw[z];exact hel
        ·rw[z];exact hil
   rw[upd_ne (Nat.ne_of_lt hb')]
   exact(hf b hb).1
 done:=by
  intro X hP hw hK hcm i pins s σ H E I hf st hg
  subst hP hw hK
  obtain⟨⟨old,he⟩,hs,hne,hef⟩:=st
  obtain⟨xs,hq,hx⟩:=hg
  subst hx
  obtain⟨f0,f1,f2,f3,f4,f5⟩:=hf it (by simp)
  obtain⟨P1,S1,D1,u1,r1,b1⟩:=drw I (I.ok.hd hcm) hq hs hc (Nat.le_refl _)
  exact wpAny_pyNext_enum_endD D1 he u1 fun h' eb=>⟨rfl,I.turned (t':=s.toks) (fun b o hb q=>eb b o hb q) f0 f1 f3 f4 f5⟩
 self:=fun A i s Q E st h=>let⟨⟨_,he⟩,_⟩:=st;wpAny_pyIter_enum he h
def b9E (K:Fr')(ta:TA):TI:=fun σ H R=>ta σ H fun vs H1=> ∃c xs,vs=[c.v]∧SqS K H1 c xs∧R (a6P K c) H1
theorem b9F {X:Cx}{e:Expr}{ta:TA}{p pos tpos:Pos}{elts:List Expr}{kk:Nat}(hg:Gl X "enumerate")(hm:X.mg "enumerate"=none)(ha:PA X [e] ta)(hs:starEach [e] X.env=[(false,eval e X.env)]):
  PI X (.Tuple elts kk tpos) (.Call (.Name "enumerate" p) [e] [] pos) (b9E X.K ta):=by
 refine⟨fun pins s σ H R I h=> ?_⟩
 refine Call_ (ld_blt I hg hm boot_enumerate (PyProof.Rows.callWith_type1 (thn (ha.run pos pins s σ H _ I h) fun us s1 ⟨vs,H1,I1,r1,q1⟩=> ?_) hs rfl))
 obtain⟨c,xs,ex,hq,q⟩:=q1
 subst ex
 cases r1 with
 |cons r rr=>
  cases rr
  obtain⟨o1,Q1,B1,k1,m1,l1⟩:=bgn I1 hq r
  refine bG2 B1 k1 fun h' he hit hsz hk=>wpAny_pyIter_enum he ?_
  have I2:Inv X pins σ H1 { s1 with heap:=h' }:=I1.kept (t':=s1.toks) hk
  refine⟨s1.heap.objs.size+1,[s1.heap.objs.size+1,s1.heap.objs.size],_,_,H1,rfl,I2,b9C l1,⟨⟨.none,he⟩,m1 _ _ hit,Nat.succ_ne_self _,?_⟩,fun b hb=> ?_,q⟩
  ·cases c with
   |    l a=>
        have:a<s1.heap.objs.size:=l1
        simp[Sc.fp,Addr]at *;omega
   |    t a=>
        have:a<s1.heap.objs.size:=l1
        simp[Sc.fp,Addr]at *;omega
   |s x=>simp[Sc.fp]
  ·have e':b=s1.heap.objs.size+1∨b=s1.heap.objs.size:=by simpa using hb
   have hle:s1.heap.objs.size≤b:=by
        rcases e' with z|z
        ·rw[z];exact Nat.le_add_right _ _
        ·rw[z];exact Nat.le_refl _
   exact I1.fpOk hle (I1.hok.fresh hle)
theorem b9G {K:Fr'}{c:Sc}{xs:List V}:Walk (a6P K c) xs.length (fun H=>SqS K H c xs) (aT0 (fun i=>some (.int (i:Nat))) (fun i=>xs[i]?)):=by
 refine⟨fun i _ hi q=>⟨xs,xs[i],q,by simp[hi]⟩,fun _ q=>⟨xs,q,rfl⟩,fun i H v H' _ q y=> ?_⟩
 obtain⟨T,x,o,h1,h2,h3,h5,h4⟩:=y
 exact⟨T,.int (i:Nat),x,o,h1,h2,h3,h5,rfl,h4 xs q⟩
def YD (K:Fr')(Hs:Hp)(ds:List D):Nat→Hp→V→Hp→Prop:=fun i H1 v H2=>
 (H2=H1∧ ∃d,ds[i]? =some d∧Rp K Hs v d)∨(∃(T:Addr) (vs:List V) (es:List D) (o:Obj),v= .ref T∧H1 T=none∧H2=upd H1 T (.frz o (.tup vs))∧o.dict=none∧ds[i]? =some (.tuple es)∧aa1 K Hs vs es∧es.length≤sizeLine)
theorem YD.rp {K:Fr'}{Hs:Hp}{ds:List D}{i:Nat}{H1 H2:Hp}{v:V}{O:List Addr}(y:YD K Hs ds i H1 v H2)(L:ab3 H1 O)(e:Ex Hs (hide H1 O)):
  ∃d,ds[i]? =some d∧Same H1 H2∧Rp K (hide H2 O) v d:=by
 rcases y with⟨rfl,d,h1,h2⟩|⟨T,vs,es,o,rfl,h1,rfl,ho,h2,h3,h4⟩
 ·exact⟨d,h1,Same.refl _,h2.mono e⟩
 ·exact⟨_,h2,ab2 h1,av1 L h1 ho (h3.mono e) h4⟩
def Still (m:Bool)(O:List Addr)(H H':Hp):Prop:=if m=true then Ex (hide H O) H' else Ex H H'
theorem Still.same {m:Bool}{O:List Addr}{H H':Hp}(h:Still m O H H'):Ex (hide H O) H':=by
 cases m
 ·exact aa9.trans h
 ·exact h
theorem Still.of {m:Bool}{O:List Addr}{H H':Hp}(h:Ex H H'):Still m O H H':=by
 cases m
 ·exact h
 ·exact aa9.trans h
def rI (K:Fr')(m:Bool)(O:List Addr)(H:Hp)(J:It)(ds:List D):Prop:=ds.length≤sizeLine∧Walk J ds.length (Still m O H) (YD K (hide H O) ds)
abbrev PIx (X:Cx)(C:Nat→Addr)(W:WX)(m:Bool)(tg e:Expr)(r:Sd→R (List D)):Prop:=PI X tg e (tR X.K C W (rI X.K m) r)
section
variable {X:Cx} {C:Nat→Addr} {W:WX} {tg e:Expr}
theorem Vd.a6S {K:Fr'}{O:List Addr}{H:Hp}{v:V}{xs:List D}{m:Bool}(h:rM K m O H v (.list xs)): ∃a vs,v= .ref a∧SqL K H a vs∧(∀H',Still m O H H'→SqL K H' a vs)∧aa1 K (hide H O) vs xs∧xs.length≤sizeLine:=by
 cases m
 ·obtain⟨a,vs,rfl,h1,h2,h3⟩:=Vd.list h
  exact⟨a,vs,rfl,h1,fun H' e=>aE9 e h1,h2,h3⟩
 ·cases (h:Rp _ _ _ _)with
  |lst q r z=>exact⟨_,_,rfl,aE9 aa9 q,fun H' e=>aE9 e q,r,z⟩
theorem Vd.a6T {K:Fr'}{O:List Addr}{H:Hp}{v:V}{xs:List D}{m:Bool}(h:rM K m O H v (.tuple xs)): ∃a vs,v= .ref a∧SqT K H a vs∧(∀H',Still m O H H'→SqT K H' a vs)∧aa1 K (hide H O) vs xs∧xs.length≤sizeLine:=by
 obtain⟨a,vs,rfl,h1,h2,h3⟩:=Vd.tuple (ac0 h)
 exact⟨a,vs,rfl,af0 aa9 h1.t,fun H' e=>af0 e.same h1.t,h2,h3⟩
theorem a6U {K:Fr'}{Hs:Hp}{vs:List V}{ds:List D}(r:aa1 K Hs vs ds){i:Nat}{H1 H2:Hp}{v:V}(y:YAt vs i H1 v H2):YD K Hs ds i H1 v H2:=by
 obtain⟨h1,h2⟩:=y
 obtain⟨d,h3,h4⟩:=aa1.aJ6 r h2
 exact .inl ⟨h1,d,h3,h4⟩
theorem bG3 {x:Str}{c:Nat}(h:PyData.strOk x=true)(hc:c∈x.cps):PyData.strOk ⟨#[c]⟩=true:=by
 unfold PyData.strOk at h ⊢
 rw[Array.all_eq_true_iff_forall_mem]at h ⊢
 intro y hy
 have:y=c:=by simpa using hy
 subst this
 exact h y hc
def ItD (d:Addr)(o:Obj)(ks:List V):It:=
 ⟨fun i H=>H d=some (setAt d o)∧i<ks.length,fun i H x H'=>H'=H∧ks[i]? =some x,fun i H=>H d=some (setAt d o)∧ks.length≤i⟩
theorem b9H {P:Program}{w:World}{K:Fr'}{tg:Expr}{d:Addr}{o:Obj}{es:Array DictEntry}{ep:Nat}{ks:List V}(it:Addr)(hx:o.ExactDict)(hod:o.data= .dict es ep)(hk:Vals ks (es.toList.map (·.key))):
  Turn P w K tg (ItD d o ks) [it] it (fun i h=>h.IsKeyIter it d i es.size ep) where
 mem:=by simp
 obj:=fun i h st b hb=>by
  have e:b=it:=by simpa using hb
  subst e
  obtain⟨oi,e,c,dd⟩:=st
  exact⟨oi,e,fun v z=>by rw[dd]at z;cases z⟩
 keep:=fun i h h' st k=>st.at fun oi e=>k it (by simp) oi e
 item:=by
  intro X hP hw hK hc i pins s σ H E I hf st hg
  subst hP hw hK
  obtain⟨hd,hi⟩:=hg
  obtain⟨f0,f1,f2,f3,f4,f5⟩:=hf it (by simp)
  have hl:es.size=ks.length:=by
   have:=hk.length
   simp only[List.length_map,Array.length_toList]at this
   omega
  have hi':i<es.size:=by omega
  refine wpAny_pyNext_keys_item_raw st ⟨o,aj4 I hd,hx,hod⟩ hi' fun h' st' sb=> ?_
  have I1:Inv X pins σ H { s with heap:=h' }:=I.turned (t':=s.toks) (fun b ob hb e=>(sb.2 b hb).trans e) f0 f1 f3 f4 f5
  obtain⟨oi,e,c,dd⟩:=id st'
  have hkey:RelV ks[i] es[i].key:=by
   have h1:(es.toList.map (·.key))[i]? =some es[i].key:=by
        rw[List.getElem?_map,Array.getElem?_toList,Array.getElem?_eq_getElem hi'];rfl
   obtain⟨u,h2,h3⟩:=hk.get (List.getElem?_eq_getElem hi)
   rw[h1]at h2
   cases h2
   exact h3
  refine⟨es[i].key,rfl,go_of (s:= { s with heap:=h' }) e c dd (by decide) ⟨ks[i],H,I1,hkey,⟨rfl,List.getElem?_eq_getElem hi⟩,st',fun b hb=>(hf b hb).1⟩⟩
 done:=by
  intro X hP hw hK hc i pins s σ H E I hf st hg
  subst hP hw hK
  obtain⟨hd,hi⟩:=hg
  obtain⟨f0,f1,f2,f3,f4,f5⟩:=hf it (by simp)
  have hl:es.size=ks.length:=by
   have:=hk.length
   simp only[List.length_map,Array.length_toList]at this
   omega
  exact wpAny_pyNext_keys_end_raw (I.ok.hd hc) st ⟨o,aj4 I hd,hx,hod⟩ (by omega) fun h' eb=>⟨rfl,I.turned (t':=s.toks) (fun b ob hb e=>eb b ob hb e) f0 f1 f3 f4 f5⟩
 self:=fun A i s Q E st h=>wpAny_pyIter_keyiter st h
def b9J (td:TE):TI:=fun σ H R=>td σ H fun x H1=> ∃d o es ep ks,x= .ref d∧H1 d=some (setAt d o)∧(d==sysModules)=false∧o.ExactDict∧o.data= .dict es ep∧Vals ks (es.toList.map (·.key))∧R (ItD d o ks) H1
theorem b9M {td:TE}(he:PE X e td):PI X tg e (b9J td):=by
 refine⟨fun pins s σ H R I h=> ?_⟩
 refine thn (he.run pins s σ H _ I h) fun u s1 ⟨x,H1,I1,rx,d,o,es,ep,ks,ex,hd,hs,hx,hdt,hk,q⟩=> ?_
 subst ex
 obtain rfl:u=Value.ref d:=rx
 exact iter_keys hs (aj4 I1 hd) hx hdt (pi_one (tk:=s1.toks) I1 _ (b9H _ hx hdt hk) ⟨_,Heap.get?_push_size _ rfl,rfl,rfl⟩ q)
theorem b9O {d:Addr}{o:Obj}{ks:List V}:Walk (ItD d o ks) ks.length (fun H=>H d=some (setAt d o)) (YAt ks):=
 ⟨fun _ _ hi q=>⟨q,hi⟩,fun _ q=>⟨q,Nat.le_refl _⟩,fun i H x H' _ _ y=>y⟩
theorem Vd.b9P {K:Fr'}{O:List Addr}{H:Hp}{v:V}{kvs:List (D×D)}{m:Bool}(h:rM K m O H v (.dict kvs)): ∃a o es ep ks,v= .ref a∧ar5 K O H a o es ep ks kvs∧ ∀H',Still m O H H'→H' a=some (setAt a o):=by
 cases m
 ·obtain⟨a,o,es,ep,ks,rfl,d⟩:=Vd.aF4 h
  exact⟨a,o,es,ep,ks,rfl,d,fun H' e=>(show Ex H H' from e) _ _ d.at_ fun _ z=>by cases z⟩
 ·cases (h:Rp _ _ _ _)with
  |dct q ns raw ke kd rk hv rv sz=>
   obtain⟨es,ep,ks,d⟩:=al0.toK (H:=H) (O:=O) ⟨aa9 _ _ q (fun _ z=>by cases z),ns,raw,ke,kd,rk,hv,rv,sz⟩
   exact⟨_,_,es,ep,ks,rfl,d,fun H' e=>(show Ex (hide H O) H' from e) _ _ q fun _ z=>by cases z⟩
  |dcti q ns raw ke ne rk hv rv sz=>
   obtain⟨es,ep,ks,d⟩:=ak8.toK (K:=K) (O:=O) (aa9 _ _ q (fun _ z=>by cases z)) ns raw rk sz
   exact⟨_,_,es,ep,ks,rfl,d,fun H' e=>(show Ex (hide H O) H' from e) _ _ q fun _ z=>by cases z⟩
theorem bG5 {m:Bool}{r:Sd→R D}(h:PEx X C W m e r):PIx X C W m tg e (fun τ=>(r τ).bind fun d=>ofO (itemsOf d)):=by
 refine⟨fun pins s σ H R I hh=> ?_⟩
 obtain⟨O,τ,rs,hh⟩:=hh
 dsimp only at hh
 cases hz:r τ with
 |no=>rw[hz]at hh;exact hh.elim
 |ex c=>exact(pi_list (tg:=tg) h).run pins s σ H R I ⟨O,τ,rs,by rw[hz]at hh ⊢;exact hh⟩
 |ok d=>
  rw[hz]at hh
  cases d with
  |list xs=>
   refine(pi_list (tg:=tg) h).run pins s σ H R I ⟨O,τ,rs,by
        rw[hz]
        intro v H1 e1 rv
        obtain⟨a,vs,rfl,h1,h2,h3,h4⟩:=Vd.a6S rv
        refine⟨a,rfl,⟨vs,h1⟩,hh _ H1 e1 ⟨h4,?_⟩⟩
        have n:=h3.length
        show Walk _ _ _ _
        rw[←n]
        exact(walk_list (K:=X.K) (a:=a) (xs:=vs)).mono (fun H' e=>h2 H' e) fun i H1 x H2 hi hg y=>a6U h3 y⟩
  |tuple xs=>
   refine(pi_tup (tg:=tg) h).run pins s σ H R I ⟨O,τ,rs,by
        rw[hz]
        intro v H1 e1 rv
        obtain⟨a,vs,rfl,h1,h2,h3,h4⟩:=Vd.a6T rv
        refine⟨a,rfl,⟨vs,h1⟩,hh _ H1 e1 ⟨h4,?_⟩⟩
        have n:=h3.length
        show Walk _ _ _ _
        rw[←n]
        exact(walk_tup (K:=X.K) (a:=a) (xs:=vs)).mono (fun H' e=>h2 H' e) fun i H1 x H2 hi hg y=>a6U h3 y⟩
  |str x=>
   refine(pi_str (tg:=tg) h).run pins s σ H R I ⟨O,τ,rs,by
        rw[hz]
        intro v H1 e1 rv
        obtain⟨rfl,h1,h2⟩:=Vd.str (ac0 rv)
        refine⟨x,rfl,hh _ H1 e1 ⟨by rw[List.length_map,Array.length_toList];exact h2,?_⟩⟩
        show Walk _ (x.cps.toList.map _).length _ _
        rw[List.length_map,Array.length_toList]
        refine(walk_str (z:=x)).mono (fun H' e=>trivial) fun i H1 v H2 hi hg y=> ?_
        obtain⟨rfl,c,hc,rfl⟩:=y
        have hm:c∈x.cps:=Array.mem_of_getElem? hc
        exact .inl ⟨rfl,.str ⟨#[c]⟩,by simp[hc],.str _ (bG3 h1 hm) (by show 1≤sizeLine;decide)⟩⟩
  |dict kvs=>
   refine(b9M (tg:=tg) h).run pins s σ H R I ⟨O,τ,rs,by
        rw[hz]
        intro v H1 e1 rv
        obtain⟨a,o,es,ep,ks,rfl,dv,st⟩:=Vd.b9P rv
        refine⟨a,o,es,ep,ks,rfl,dv.at_,dv.ns,dv.ex,dv.dt,dv.kv,hh _ H1 e1 ⟨by simpa using dv.sz,?_⟩⟩
        ·show Walk _ (kvs.map (·.1)).length _ _
         rw[←dv.rk.length]
         exact(b9O (d:=a) (o:=o) (ks:=ks)).mono (fun H' e=>st H' e) fun i H1 x H2 hi hg y=>a6U dv.rk y⟩
  |_=>exact hh.elim
variable {a b:Expr} {ra rb:Sd→R D} {p pos:Pos}
theorem bG6 {lo:Int}{n i:Nat}(h:i<n):(ae2 lo n)[i]? =some (.int (lo+i)):=by
 unfold ae2
 rw[List.getElem?_map,List.getElem?_range h]
 rfl
theorem a2v {lo:Int}{n:Nat}:(ae2 lo n).length=n:=by simp[ae2]
theorem b9Q {m ma:Bool}(hg:Gl X "range")(hm:X.mg "range"=none)(h:PEx X C W ma a ra)(hs:starEach [a] X.env=[(false,eval a X.env)]):
  PIx X C W m tg (.Call (.Name "range" p) [a] [] pos) (fun τ=>((ra τ).bind (o1 .rng)).bind fun d=>ofO (itemsOf d)):=by
 refine(pi_range1 hg hm (pa_cons h pa_nil hs) hs).aa7 fun σ H Rr hh=> ?_
 obtain⟨O,τ,rs,hh⟩:=hh
 refine⟨O,τ,rs,?_⟩
 dsimp only at hh
 cases hz:ra τ with
 |no=>rw[hz]at hh;exact hh
 |ex c=>rw[hz]at hh;exact hh
 |ok d=>
  rw[hz]at hh
  intro v H1 e1 rv
  cases d<;>try exact hh.elim
  rename_i j
  cases Vd.int (ac0 rv)
  by_cases hj: -1000000≤j∧j≤1000000
  ·replace hh:Ans C W O H σ (rI X.K m O) Rr (((if -1000000≤j∧j≤1000000 then R.ok (.list (ae2 0 j.toNat))else .no):R D).bind fun d=>ofO (itemsOf d)):=hh
   rw[if_pos hj]at hh
   refine⟨j,rfl,by omega,by omega,hh _ H1 e1 ⟨by rw[a2v,sizeLine_eq];omega,?_⟩⟩
   show Walk _ (ae2 0 j.toNat).length _ _
   rw[a2v]
   refine walk_range.mono (fun _ _=>trivial) fun i H1 v H2 hi hg y=> ?_
   obtain⟨rfl,rfl⟩:=y
   exact .inl ⟨rfl,_,bG6 hi,.int _⟩
  ·replace hh:Ans C W O H σ (rI X.K m O) Rr (((if -1000000≤j∧j≤1000000 then R.ok (.list (ae2 0 j.toNat))else .no):R D).bind fun d=>ofO (itemsOf d)):=hh
   rw[if_neg hj]at hh
   exact hh.elim
theorem b9S {m ma mb:Bool}(hg:Gl X "range")(hm:X.mg "range"=none)(h:PEx X C W ma a ra)(h2:PEx X C W mb b rb)(hs:starEach [a,b] X.env=[(false,eval a X.env),(false,eval b X.env)])(hs2:starEach [b] X.env=[(false,eval b X.env)]):
  PIx X C W m tg (.Call (.Name "range" p) [a,b] [] pos) (fun τ=>((ra τ).bind fun x=>(rb τ).bind fun y=>o2 .rng x y).bind fun d=>ofO (itemsOf d)):=by
 refine(pi_range2 hg hm (pa_cons h (pa_cons h2 pa_nil hs2) (by rw[hs,hs2])) hs hs2).aa7 fun σ H Rr hh=> ?_
 obtain⟨O,τ,rs,hh⟩:=hh
 refine⟨O,τ,rs,?_⟩
 dsimp only at hh
 cases hz:ra τ with
 |no=>rw[hz]at hh;exact hh
 |ex c=>rw[hz]at hh;exact hh
 |ok d=>
  rw[hz]at hh
  intro v H1 e1 rv
  refine⟨O,τ,rs.mono e1,?_⟩
  cases hz2:rb τ with
  |no=>rw[hz2]at hh;exact hh
  |ex c=>rw[hz2]at hh;exact Ans.mono (r:=(.ex c:R (List D))) hh e1
  |ok d2=>
   rw[hz2]at hh
   intro v2 H2 e2 rv2
   cases d<;>try exact hh.elim
   cases d2<;>try exact hh.elim
   rename_i i j
   cases Vd.int (ac0 rv)
   cases Vd.int (ac0 rv2)
   by_cases hj: -1000000≤i∧i≤1000000∧ -1000000≤j∧j≤1000000
   ·    replace hh:Ans C W O H σ (rI X.K m O) Rr (((if -1000000≤i∧i≤1000000∧ -1000000≤j∧j≤1000000 then R.ok (.list (ae2 i (j-i).toNat))else .no):R D).bind fun d=>ofO (itemsOf d)):=hh
        rw[if_pos hj]at hh
        refine⟨i,j,rfl,⟨by omega,by omega,by omega,by omega⟩,hh _ H2 (e1.trans e2) ⟨by rw[a2v,sizeLine_eq];omega,?_⟩⟩
        show Walk _ (ae2 i (j-i).toNat).length _ _
        rw[a2v]
        refine walk_range.mono (fun _ _=>trivial) fun i H1 v H2 hi hg y=> ?_
        obtain⟨rfl,rfl⟩:=y
        exact .inl ⟨rfl,_,bG6 hi,.int _⟩
   ·    replace hh:Ans C W O H σ (rI X.K m O) Rr (((if -1000000≤i∧i≤1000000∧ -1000000≤j∧j≤1000000 then R.ok (.list (ae2 i (j-i).toNat))else .no):R D).bind fun d=>ofO (itemsOf d)):=hh
        rw[if_neg hj]at hh
        exact hh.elim
theorem b9T {xs:List D}{i:Nat}{d:D}(h:xs[i]? =some d):(am6 xs)[i]? =some (.tuple [.int i,d]):=by
 have hl:i<xs.length:=(List.getElem?_eq_some_iff.mp h).1
 unfold am6
 rw[List.getElem?_map,List.getElem?_range hl]
 simp[List.getD,h]
theorem bH0 {xs:List D}:(am6 xs).length=xs.length:=by simp[am6]
theorem b9U {K:Fr'}{Hs:Hp}{vs:List V}{ds:List D}(r:aa1 K Hs vs ds){i:Nat}{H1 H2:Hp}{v:V}(y:aT0 (fun i=>some (.int (i:Nat))) (fun i=>vs[i]?) i H1 v H2):YD K Hs (am6 ds) i H1 v H2:=by
 obtain⟨T,x,y,o,h1,h2,h3,ho,h4,h5⟩:=y
 cases h4
 obtain⟨d,h6,h7⟩:=aa1.aJ6 r h5
 exact .inr ⟨T,_,_,o,h1,h2,h3,ho,b9T h6,.cons (.int _) (.cons h7 .nil),by show 2≤sizeLine;decide⟩
theorem zip_get: ∀ {xs ys:List D} {i:Nat} {d e:D},xs[i]? =some d→ys[i]? =some e→(ah2 xs ys)[i]? =some (.tuple [d,e])
 | [],_,_,_,_,h,_=>by simp at h
 |_::_,[],_,_,_,_,h=>by simp at h
 |x::xs,y::ys,0,d,e,h,h2=>by simp at h h2;subst h h2;rfl
 |x::xs,y::ys,i+1,d,e,h,h2=>by
  simp only[ah2,List.getElem?_cons_succ]at h h2 ⊢
  exact zip_get h h2
theorem a6W: ∀ {xs ys:List D},(ah2 xs ys).length=min xs.length ys.length
 | [],_=>by simp[ah2]
 |_::_,[]=>by simp[ah2]
 |x::xs,y::ys=>by simp only[ah2,List.length_cons,a6W (xs:=xs) (ys:=ys)];omega
theorem bH1 {K:Fr'}{Hs:Hp}{vs ws:List V}{ds es:List D}(r:aa1 K Hs vs ds)(r2:aa1 K Hs ws es){i:Nat}{H1 H2:Hp}{v:V}(y:aT0 (fun i=>vs[i]?) (fun i=>ws[i]?) i H1 v H2):YD K Hs (ah2 ds es) i H1 v H2:=by
 obtain⟨T,x,y,o,h1,h2,h3,ho,h4,h5⟩:=y
 obtain⟨d,h6,h7⟩:=aa1.aJ6 r h4
 obtain⟨d',h8,h9⟩:=aa1.aJ6 r2 h5
 exact .inr ⟨T,_,_,o,h1,h2,h3,ho,zip_get h6 h8,.cons h7 (.cons h9 .nil),by show 2≤sizeLine;decide⟩
theorem Still.after {m:Bool}{O:List Addr}{H H1 H':Hp}(e:Same H H1)(h:Still m O H1 H'):Still m O H H':=by
 cases m
 ·exact e.ex.trans h
 ·exact(Same.hide e).trans h
theorem b9V {K:Fr'}{c d:Sc}{xs ys:List V}{n:Nat}(hn:n=min xs.length ys.length):Walk (ItG K c d) n (fun H=>SqS K H c xs∧SqS K H d ys) (aT0 (fun i=>xs[i]?) (fun i=>ys[i]?)) where
 goes:=fun i H hi q=>⟨xs,ys,xs[i],ys[i],q,by simp,by simp⟩
 stops:=fun H q=>⟨xs,ys,q,hn⟩
 yields:=fun i H v H' hi q ⟨T,x,y,o,h1,h2,h3,ho,h4⟩=>⟨T,x,y,o,h1,h2,h3,ho,h4 xs ys q.1 q.2⟩
theorem b9W {K:Fr'}{H H':Hp}{c:Sc}{xs:List V}(e:Same H H')(q:SqS K H c xs):SqS K H' c xs:=by
 cases c with
 |l a=>exact aE9 e q
 |t a=>exact af0 e.ex q
 |s x=>exact q
theorem a6Y (x y:D):o2 .zip x y=(ofO (zipItems x)).bind fun xs=>(ofO (zipItems y)).bind fun ys=> .ok (.list (ah2 xs ys)):=by cases x<;>cases y<;>rfl
theorem bH2 {K:Fr'}{Hs:Hp}: ∀(cs:List Nat),(∀c∈cs,PyData.strOk ⟨#[c]⟩=true)→aa1 K Hs (cs.map fun c=>V.str ⟨#[c]⟩) (cs.map fun c=> .str ⟨#[c]⟩)
 | [],_=> .nil
 |c::cs,h=> .cons (.str _ (h c (by simp)) (by show 1≤sizeLine;decide)) (bH2 cs fun c' hc=>h c' (by simp[hc]))
theorem a6Z {K:Fr'}{m:Bool}{O:List Addr}{H:Hp}{v:V}{d:D}{xs:List D}(rv:rM K m O H v d)(k:zipItems d=some xs):
  ∃c us,v=Sc.v c∧SqS K H c us∧(∀H',Still m O H H'→SqS K H' c us)∧aa1 K (hide H O) us xs∧xs.length≤sizeLine:=by
 cases d with
 |list ys=>
  cases k
  obtain⟨a,us,rfl,h1,h2,h3,h4⟩:=Vd.a6S rv
  exact⟨.l a,us,rfl,h1,h2,h3,h4⟩
 |tuple ys=>
  cases k
  obtain⟨a,us,rfl,h1,h2,h3,h4⟩:=Vd.a6T rv
  exact⟨.t a,us,rfl,h1,h2,h3,h4⟩
 |str x=>
  cases k
  obtain⟨rfl,h1,h2⟩:=Vd.str (ac0 rv)
  refine⟨.s x,_,rfl,rfl,fun _ _=>rfl,bH2 _ fun c hc=>bG3 h1 (Array.mem_toList_iff.mp hc),?_⟩
  rw[List.length_map,Array.length_toList]
  exact h2
 |_=>cases k
theorem bH6 (x:D):o1 .enm x=(ofO (zipItems x)).bind fun xs=> .ok (.list (am6 xs)):=by cases x<;>rfl
theorem b9X {m:Bool}{elts:List Expr}{kk:Nat}{tpos:Pos}(hg:Gl X "enumerate")(hm:X.mg "enumerate"=none)(h:PEx X C W m a ra)(hs:starEach [a] X.env=[(false,eval a X.env)]):
  PIx X C W m (.Tuple elts kk tpos) (.Call (.Name "enumerate" p) [a] [] pos) (fun τ=>((ra τ).bind (o1 .enm)).bind fun d=>ofO (itemsOf d)):=by
 refine(b9F hg hm (pa_cons h pa_nil hs) hs).aa7 fun σ H Rr hh=> ?_
 obtain⟨O,τ,rs,hh⟩:=hh
 refine⟨O,τ,rs,?_⟩
 dsimp only at hh
 cases hz:ra τ with
 |no=>rw[hz]at hh;exact hh
 |ex c=>rw[hz]at hh;exact hh
 |ok d=>
  rw[hz]at hh
  intro v H1 e1 rv
  cases k:zipItems d with
  |none=>
   have:o1 .enm d= .no:=by rw[bH6,k];rfl
   simp only[R.ai6,this,R.a5S]at hh
   exact hh.elim
  |some xs=>
   have hz3:o1 .enm d= .ok (.list (am6 xs)):=by rw[bH6,k];rfl
   simp only[R.ai6,hz3]at hh
   obtain⟨c,us,rfl,g1,g2,g3,g4⟩:=a6Z rv k
   refine⟨c,us,rfl,g1,hh _ H1 e1 ⟨by rw[bH0];exact g4,?_⟩⟩
   show Walk _ (am6 xs).length _ _
   rw[bH0,←g3.length]
   exact(b9G (K:=X.K) (c:=c) (xs:=us)).mono (fun H' e=>g2 H' e) fun i H1 x H2 hi hg y=>b9U g3 y
theorem b9Y {m:Bool}{elts:List Expr}{kk:Nat}{tpos:Pos}(hg:Gl X "zip")(hm:X.mg "zip"=none)(h:PEx X C W m a ra)(h2:PEx X C W m b rb)(hs:starEach [a,b] X.env=(false,eval a X.env)::starEach [b] X.env)(hs2:starEach [b] X.env=(false,eval b X.env)::starEach [] X.env)(hpl:(backTo pos (starEach [b] X.env)).any (·.1)=false):
  PIx X C W m (.Tuple elts kk tpos) (.Call (.Name "zip" p) [a,b] [] pos) (fun τ=>((ra τ).bind fun x=>(rb τ).bind fun y=>o2 .zip x y).bind fun d=>ofO (itemsOf d)):=by
 refine(b9A hg hm (pa_cons h (pa_cons h2 pa_nil hs2) hs) hs hpl).aa7 fun σ H Rr hh=> ?_
 obtain⟨O,τ,rs,hh⟩:=hh
 refine⟨O,τ,rs,?_⟩
 dsimp only at hh
 cases hz:ra τ with
 |no=>rw[hz]at hh;exact hh
 |ex c=>rw[hz]at hh;exact hh
 |ok d=>
  rw[hz]at hh
  intro v H1 e1 rv
  refine⟨O,τ,rs.mono e1,?_⟩
  cases hz2:rb τ with
  |no=>rw[hz2]at hh;exact hh
  |ex c=>rw[hz2]at hh;exact Ans.mono (r:=(.ex c:R (List D))) hh e1
  |ok d2=>
   rw[hz2]at hh
   intro v2 H2 e2 rv2
   cases k1:zipItems d with
   |    none=>
        have:o2 .zip d d2= .no:=by rw[a6Y,k1];rfl
        simp only[R.ai6,this,R.a5S]at hh
        exact hh.elim
   |some xs=>
   cases k2:zipItems d2 with
   |    none=>
        have:o2 .zip d d2= .no:=by rw[a6Y,k1,k2];rfl
        simp only[R.ai6,this,R.a5S]at hh
        exact hh.elim
   |some ys=>
   have hz3:o2 .zip d d2= .ok (.list (ah2 xs ys)):=by rw[a6Y,k1,k2];rfl
   simp only[R.ai6,hz3]at hh
   obtain⟨c1,us,rfl,g1,g2,g3,g4⟩:=a6Z rv k1
   obtain⟨c2,ws,rfl,f1,f2,f3,f4⟩:=a6Z rv2 k2
   have n1:=g3.length
   have n2:=f3.length
   refine⟨c1,c2,us,ws,rfl,b9W e2 g1,f1,hh _ H2 (e1.trans e2) ⟨by rw[a6W];omega,?_⟩⟩
   show Walk _ (ah2 xs ys).length _ _
   exact(b9V (K:=X.K) (c:=c1) (d:=c2) (xs:=us) (ys:=ws) (n:=(ah2 xs ys).length) (by rw[a6W,n1,n2])).mono (fun H' e=>⟨g2 H' (Still.after e2 e),f2 H' e⟩) fun i H1 x H2 hi hg y=>bH1 (g3.mono (Same.hide e2)) f3 y
end
end Fz
namespace Fz
open PySem PySem.Spec PyProof.Rows
inductive E where
 |var (i:Nat)|pk (i:Nat)|cst (d:D)
 |tup (es:List E)|lst (es:List E)
 |u (o:U) (a:E)|b (o:B) (a b:E)|cut (a b c:E)|zip3 (a b c:E)|get (a b c:E)|idx (a b:E)
 |and (es:List E)|or (es:List E)|ite (c a b:E)|chain (o p:B) (a b c:E)|chain3 (o p q:B) (a b c d:E)
 |call (f:Nat) (es:List E)
 |sel (ks:List Str) (es:List E) (k:E)
 |comp (g:Tg) (s c e:E)
 |top
 |thunk (f:Nat) (e:E)
 |dct0|dct1 (k v:E)|tab (fs:List Nat) (k:E) (es:List E)
 |fcl (i:Nat) (es:List E)|hof (f:Nat) (es:List E) (caps:List Nat)|skey (f:Nat) (a:E)
 |tm (k:TM) (a b:E)|up (a:E)|si (a:E)|tg (x:Str) (kvs:List (D×D)) (a:E)|rpd (k:Bool) (es:List E) (y z:Str) (a:E) (w:Option Str)
 |plr (i:Nat)|idt (i:Nat) (e:E)|pcl (f i:Nat) (es:List E)
 |obj (i k:Nat) (es:List E)|att (i k:Nat)
 |obd (p i k:Nat) (es:List E)|sq (n:Bool) (i j k:Nat)|sd (n:Bool) (i:Nat) (e:E) (k:Nat)|sl (i k:Nat)|sit (a:E)
def ah5 (τ:Sd):Sd:=τ.map fun o=>match o with
 |some (.val d)=>some (.val d)
 |_=>none
def aT3 (m:List D→R D):R D→R D→R D
 | .ok d,_=>m [.bool true,d]
 | .ex _,.ex c=>m [.bool false,.int c]
 |_,_=> .no
def cvD:Option Bool→D
 |some b=> .bool b
 |none=> .none
structure TD where
 ret:Option (Option Bool)
 exc:Nat
 val:Option Bool
def mT (t:TD):List D→R D
 | [.bool true,d]=> .ok (match t.ret with|some c=>cvD c|none=>d)
 | [.bool false,.int c]=>if c=t.exc then .ok (cvD t.val)else .no
 |_=> .no
def bI2:D→R (List (D×D))
 | .list ds=>ofO (ao4 ds)
 |_=> .no
def bI6 (kvs ps:List (D×D)):List (D×D):=ps.foldl (fun acc p=>ai9 acc p.1 p.2) kvs
def z3R (x y z:D):R D:=match x,y,z with
 | .tuple xs,.tuple ys,.tuple zs=> .ok (.list (zipD3 xs ys zs))
 |_,_,_=> .no
def bI8:D→R (List (D×D))
 | .dict kvs=> .ok kvs
 |_=> .no
def bI9 (kvs:List (D×D))(k x:D):R D:=if ab8 k=true∧isI kvs=false then .ok ((ak5 kvs k).getD x)else .no
def aK7:D→R (List D)
 | .list xs=> .ok xs
 |_=> .no
def bJ2 (xs:List D)(y:D):R D:=if ac5 y (.list xs)=true then(ofO (xs.findIdx? fun z=>PyData.eqv z y)).bind fun i=> .ok (.int (i:Nat))else .no
def asI:D→R Int
 | .int i=> .ok i
 |_=> .no
def a66:Nat→D→R D
 |0,.tuple [d,_,_,_,_]=> .ok d
 |1,.tuple [_,d,_,_,_]=> .ok d
 |2,.tuple [_,_,d,_,_]=> .ok d
 |3,.tuple [_,_,_,d,_]=> .ok d
 |4,.tuple [_,_,_,_,d]=> .ok d
 |_,_=> .no
def a68 (f:Str):Option Nat:=([("state",0),("next",1),("kept",2),("done",3),("undone",4)]:List (Str×Nat)).lookup f
def ad2 (τ:Sd)(i:Nat):R D:=match τ[i]? with
 |some (some (.sto d))=> .ok d
 |_=> .no
def ar9 (τ:Sd)(i:Nat):R Nat:=match τ[i]? with
 |some (some (.fnc g))=> .ok g
 |_=> .no
def looks (τ:Sd):List Nat→R (List D)
 | []=> .ok []
 |i::r=>(look τ i).bind fun d=>(looks τ r).bind fun ds=> .ok (d::ds)
def mapR {α β:Type}(f:α→R β):List α→R (List β)
 | []=> .ok []
 |a::r=>(f a).bind fun b=>(mapR f r).bind fun bs=> .ok (b::bs)
def bJ3 {α:Type}(p:Int×α):List (Int×α)→List (Int×α)
 | []=>[p]
 |q::r=>if p.1≤q.1 then p::q::r else q::bJ3 p r
def bJ5 {α:Type}:List (Int×α)→List (Int×α)
 | []=>[]
 |p::r=>bJ3 p (bJ5 r)
def skR (φ:List D→R D)(xs:List D):R D:=(mapR (fun x=>(φ [x]).calm.bind asI) xs).bind fun ks=>if xs.length<64∧ks.Nodup then .ok (.list ((bJ5 (ks.zip xs)).map (·.2)))else .no
def sfR:Option Str→D→R D
 |none,d=> .ok d
 |some w,d=>o2 .add d (.str w)
def af5 (τ:Sd)(i:Nat):R D:=match τ[i]? with
 |some (some (.plv d))=> .ok d
 |_=> .no
def bJ6:D→D→R D
 | .tuple [_,_,.tuple zs],y=>if ac5 y (.tuple zs)=true then(ofO (zs.findIdx? fun z=>PyData.eqv z y)).bind fun i=> .ok (.int (i:Nat))else .no
 |_,_=> .no
def sqR (neg:Bool):R D→R D
 | .ok (.bool k)=> .ok (.bool (k !=neg))
 |_=> .no
def bJ7:R D→R D
 | .ok (.int n)=>if 0≤n∧n<2^63 then .ok (.int n)else .no
 |_=> .no
def a7b:D→Bool
 | .list _=>true
 | .tuple _=>true
 |_=>false
mutual
def ev (Φ:Nat→List D→R D):E→Sd→R D
 | .var i,τ=>look τ i
 | .pk i,τ=>peek τ i
 | .cst d,_=> .ok d
 | .tup es,τ=>(evs Φ es τ).bind fun ds=> .ok (.tuple ds)
 | .lst es,τ=>(evs Φ es τ).bind fun ds=> .ok (.list ds)
 | .u o a,τ=>(ev Φ a τ).bind (o1 o)
 | .b o a b,τ=>(ev Φ a τ).bind fun x=>(ev Φ b τ).bind (o2 o x)
 | .cut a b c,τ=>(ev Φ a τ).bind fun x=>(ev Φ b τ).bind fun y=>(asI y).bind fun i=>(ev Φ c τ).bind fun z=>(asI z).bind fun j=>au5 x (some i) (some j)
 | .zip3 a b c,τ=>(ev Φ a τ).bind fun x=>(ev Φ b τ).bind fun y=>(ev Φ c τ).bind fun z=>z3R x y z
 | .get a b c,τ=>(ev Φ a τ).bind fun d=>(bI8 d).bind fun kvs=>(ev Φ b τ).bind fun kk=>(ev Φ c τ).bind fun xx=>bI9 kvs kk xx
 | .idx a b,τ=>(ev Φ a τ).bind fun d=>(aK7 d).bind fun xs=>(ev Φ b τ).bind fun y=>bJ2 xs y
 | .and es,τ=>evA Φ es τ
 | .or es,τ=>evO Φ es τ
 | .chain o p a b c,τ=>(ev Φ a τ).bind fun x=>(ev Φ b τ).bind fun y=>(o2 o x y).bind fun z=>(asB z).bind fun k=>
  if k=true then(ev Φ c τ).bind fun w=>o2 p y w else .ok (.bool false)
 | .chain3 o p q a b c d,τ=>(ev Φ a τ).bind fun x=>(ev Φ b τ).bind fun y=>(o2 o x y).bind fun z=>(asB z).bind fun k=>
  if k=true then(ev Φ c τ).bind fun w=>(o2 p y w).bind fun z2=>(asB z2).bind fun k2=>if k2=true then(ev Φ d τ).bind fun w2=>o2 q w w2 else .ok (.bool false)else .ok (.bool false)
 | .ite c a b,τ=>((ev Φ c τ).bind asB).bind fun k=>if k=true then ev Φ a τ else ev Φ b τ
 | .call f es,τ=>(evs Φ es τ).bind (Φ f)
 | .sel ks es k,τ=>(evs Φ es τ).bind fun vs=>(ev Φ k τ).bind (a5Z ks vs)
 | .comp g s c e,τ=>(ev Φ s τ).bind fun d=>(ofO (itemsOf d)).bind fun ds=>
  (turns (fun x=>(ae8 g x (an7 τ g.slots)).bind fun τ2=>((ev Φ c τ2).bind asB).bind fun k=>
   if k=true then(ev Φ e τ2).bind fun y=> .ok (some y)else .ok none) ds).calm.bind fun ys=> .ok (.list ys)
 | .top,_=> .no
 | .thunk f e,τ=>aT3 (Φ f) (ev Φ e τ) (ev Φ e (ah5 τ))
 | .dct0,_=> .ok (.dict [])
 | .dct1 k v,τ=>(ev Φ k τ).bind fun x=>(ev Φ v τ).bind fun y=>if ab8 x=true then .ok (.dict [(x,y)])else .no
 | .tab fs k es,τ=>(ev Φ k τ).bind fun d=>(asI d).bind fun i=>(ofO (L2.atI (fs.map Φ) i)).bind fun m=>(evs Φ es τ).bind m
 | .fcl i es,τ=>(ar9 τ i).bind fun g=>(evs Φ es τ).bind fun ds=>(Φ g ds).calm
 | .hof f es caps,τ=>(evs Φ es τ).bind fun ds=>(looks τ caps).bind fun cs=>(Φ f (ds++cs)).calm
 | .skey f a,τ=>(ev Φ a τ).bind fun d=>(aK7 d).bind fun xs=>skR (Φ f) xs
 | .tm k a b,τ=>(ev Φ a τ).bind fun x=>(asS x).bind fun s=>(ev Φ b τ).bind fun y=>tmR k s y
 | .up a,τ=>(ev Φ a τ).bind upR
 | .si a,τ=>(ev Φ a τ).bind siR
 | .tg _ kvs a,τ=>(ev Φ a τ).bind (tgR kvs)
 | .rpd k es y z a w,τ=>(evs Φ es τ).bind fun ds=>(((ev Φ a τ).bind (rpR y z)).bind (sfR w)).bind fun d=> .ok (if k=true then .list (ds++[d])else .tuple (ds++[d]))
 | .plr i,τ=>af5 τ i
 | .idt i e,τ=>(af5 τ i).bind fun p=>(ev Φ e τ).bind fun y=>bJ6 p y
 | .pcl f i es,τ=>(af5 τ i).bind fun p=>(evs Φ es τ).bind fun ds=>Φ f (p::ds)
 | .obj i k es,τ=>(ad2 τ i).bind fun d=>(evs Φ es τ).bind fun ds=>Φ k (d::ds)
 | .att i k,τ=>(ad2 τ i).bind (a66 k)
 | .obd _ i k es,τ=>(ad2 τ i).bind fun d=>(evs Φ es τ).bind fun ds=>Φ k (d::ds)
 | .sq n i j k,τ=>(ad2 τ i).bind fun a=>(ad2 τ j).bind fun b=>sqR n (Φ k [a,b])
 | .sd n i e _,τ=>(ad2 τ i).bind fun _=>(ev Φ e τ).bind fun d=>if a7b d=true then .ok (.bool n)else .no
 | .sl i k,τ=>(ad2 τ i).bind fun d=>bJ7 (Φ k [d])
 | .sit a,τ=>((ev Φ a τ).bind (o1 .itm)).bind (o1 .sorted)
def evs (Φ:Nat→List D→R D):List E→Sd→R (List D)
 | [],_=> .ok []
 |e::r,τ=>(ev Φ e τ).bind fun x=>(evs Φ r τ).bind fun xs=> .ok (x::xs)
def evA (Φ:Nat→List D→R D):List E→Sd→R D
 | [],_=> .no
 |  e::r,τ=>(ev Φ e τ).bind fun x=>(asB x).bind fun c=>match r with
    | []=> .ok (.bool c)
    |_::_=>if c=true then evA Φ r τ else .ok (.bool false)
def evO (Φ:Nat→List D→R D):List E→Sd→R D
 | [],_=> .no
 |  e::r,τ=>(ev Φ e τ).bind fun x=>(asB x).bind fun c=>match r with
    | []=> .ok (.bool c)
    |_::_=>if c=true then .ok (.bool true)else evO Φ r τ
end
def a2z:Nat→D→D→R D
 |0,.tuple [_,n,k,d,u],x=> .ok (.tuple [x,n,k,d,u])
 |1,.tuple [s,_,k,d,u],.int n=> .ok (.tuple [s,.int n,k,d,u])
 |_,_,_=> .no
def bJ8:Nat→D→D→R D
 |3,.tuple [s,n,k,.list xs,u],x=>if xs.length<sizeLine then .ok (.tuple [s,n,k,.list (xs++[x]),u])else .no
 |4,.tuple [s,n,k,d,.list xs],x=>if xs.length<sizeLine then .ok (.tuple [s,n,k,d,.list (xs++[x])])else .no
 |_,_,_=> .no
inductive XC where
 |mx (i f:Nat) (es:List E)|md (p i f:Nat) (es:List E)|mc (i cp f:Nat) (es:List E)|dp (i:Nat) (k:E)|pa (i k:Nat)
inductive XT where
 |e (a:E)|cm (o:B) (c:XC) (a:E)|nw (n:Bool) (i f k:Nat) (a:E)
inductive SP where
 |v (e:E)|nw (f:Nat) (e:E)|cp (i f:Nat)
inductive SO where
 |put (i k:Nat) (e:E)|app (i k:Nat) (e:E)|nil (i:Nat)|kpt (i:Nat) (k v:E)|nxt (j i:Nat) (es:List E)|mex (i f:Nat) (es:List E)|pap (i f:Nat) (e:E)
 |snw (i f:Nat) (e:E)|snw2 (i j f:Nat) (e1 e2:E)|cpy (j i f:Nat)
 |xif (ts:List XT)|xrt (ts:List XT)|xst (j:Nat) (c:XC)|xex (c:XC)|xpt (i k:Nat) (c:XC)|spar (l:List (Nat×SP))|tl (p i f:Nat) (es:List E)
inductive S where
 |ex (e:E)|set (g:Tg) (e:E)|own (i:Nat) (e:E)|par (l:List (Nat×Bool×E))
 |ret (e:E)|ife (c:E) (a b:List S)|for_ (g:Tg) (e:E) (b:List S)|whl (c:E) (b:List S)
 |app (i:Nat) (e:E)|ext (i:Nat) (e:E)|raise (c:Nat)|pass|fz (l:List Nat) (s:S)|top
 |dset (i:Nat) (k v:E)|dpop (i:Nat) (k:E)|dupd (i:Nat) (e:E)|lpop (j i:Nat) (e:E)|buck (k i j:Nat) (n e:E)|gds (h k i j:Nat) (n:E) (es as:List E)|reto (i:Nat)|try_ (i j:Nat) (b:List S) (tbl:List (Nat×Nat))|tryk (k:Nat) (v:Bool) (b:List S)|thl (i v f:Nat) (e1 e2 r:E)|tcx (i:Nat) (g:Tg) (s e:E)|plv (i:Nat) (a b:E)|plc (i:Nat) (a b:E) (es:List E)|st (o:SO)
inductive SR where
 |nx (τ:Sd)|rt (d:D)|ex (c:Nat)|no|rf (xs:List D)
def SR.thn:SR→(Sd→SR)→SR
 | .nx τ,f=>f τ
 | .rt d,_=> .rt d
 | .rf xs,_=> .rf xs
 | .ex c,_=> .ex c
 | .no,_=> .no
def R.toS {α:Type}:R α→(α→SR)→SR
 | .ok a,f=>f a
 | .ex c,_=> .ex c
 | .no,_=> .no
@[simp] theorem SR.aK8 (τ:Sd) (f:Sd→SR):(SR.nx τ).thn f=f τ:=id rfl
@[simp] theorem SR.c4M (d:D) (f:Sd→SR):(SR.rt d).thn f= .rt d:=id rfl
@[simp] theorem SR.c4N (xs:List D) (f:Sd→SR):(SR.rf xs).thn f= .rf xs:=id rfl
@[simp] theorem SR.c4O (c:Nat) (f:Sd→SR):(SR.ex c).thn f= .ex c:=id rfl
@[simp] theorem SR.c4P (f:Sd→SR):SR.no.thn f= .no:=id rfl
@[simp] theorem R.aF7 {α:Type} (a:α) (f:α→SR):(R.ok a).toS f=f a:=id rfl
@[simp] theorem R.c4S {α:Type} (c:Nat) (f:α→SR):(R.ex c:R α).toS f= .ex c:=id rfl
@[simp] theorem R.c4U {α:Type} (f:α→SR):(R.no:R α).toS f= .no:=id rfl
def av6 (τ:Sd)(i:Nat):Sd:=match τ[i]? with
 |some (some (.own xs))=>τ.set i (some (.val (.list xs)))
 |some (some (.dct kvs))=>τ.set i (some (.val (.dict kvs)))
 |_=>τ
def frz (τ:Sd):List Nat→Sd
 | []=>τ
 |i::r=>frz (av6 τ i) r
def as3 (f:D→Sd→SR):List D→Sd→SR
 | [],τ=> .nx τ
 |x::r,τ=>(f x τ).thn (as3 f r)
def aw1 (c:Sd→R Bool)(f:Sd→SR):Nat→Sd→SR
 |0,_=> .no
 |n+1,τ=>(c τ).toS fun b=>if b=true then(f τ).thn (aw1 c f n)else .nx τ
def aF8 (τ:Sd)(i:Nat):R (List (D×D)):=match τ[i]? with
 |some (some (.dct kvs))=> .ok kvs
 |_=> .no
def bK0 (tbl:Nat→Option Nat):SR→SR
 | .ex c=>(match tbl c with|some n=> .rt (.int n)|none=> .no)
 |r=>r
def bK3 (k:Nat)(d:D):SR→SR
 | .ex c=>if c=k then .rt d else .no
 |r=>r
def ownAt (τ:Sd)(i:Nat):R (List D):=match τ[i]? with
 |some (some (.own xs))=> .ok xs
 |_=> .no
def bK6 (xs:List D)(d:D):R (D×List D):=match d with
 | .int k=>if 0≤k∧k<xs.length then(ofO (xs[k.toNat]?)).bind fun v=> .ok (v,xs.eraseIdx k.toNat)else .no
 |_=> .no
def b90 (rows:List (List D))(d x:D):R (List (List D)):=match d with
 |  .int k=>if 0≤k∧k<rows.length then(match rows[k.toNat]? with
    |some r=>if r.length<sizeLine then .ok (rows.set k.toNat (r++[x]))else .no
    |none=> .no)else .no
 |_=> .no
def bK7 (re:Sd→R D)(i j:Nat):List D→Sd→List (List D)→SR
 | [],τ,rows=>if rows.length≤sizeLine then .nx (τ.set i (some (.own (rows.map .list))))else .no
 |x::r,τ,rows=>(re (τ.set j (some (.val x)))).toS fun d=>(look (τ.set j (some (.val x))) j).toS fun y=>(b90 rows d y).toS fun ah0=>bK7 re i j r (τ.set j (some (.val x))) ah0
def b91 (τ:Sd):Bool:=τ.all fun o=>match o with
 |some (.sto _)=>false
 |_=>true
def bK8 (rn:Sd→R (List D))(re:Sd→R D)(i j:Nat)(τ:Sd):SR:=if i<τ.length∧b91 τ=true then(rn τ).toS fun ds=>(rn (τ.set i none)).toS fun es=>bK7 re i j es (τ.set i none) (ds.map fun _=>[])else .no
def a7c (re:Sd→R (List D))(k:Nat)(τ:Sd)(ns:List D):R (List D):=mapR (fun x=>((ae8 (.one k) x (an7 τ [k])).bind re).bind fun ds=> .ok (.tuple ds)) ns
def b92 (rn:Sd→R (List D))(re ra:Sd→R (List D))(φ:List D→R D)(k i j:Nat)(τ:Sd):SR:=
 (rn τ).calm.toS fun ns=>(a7c re k τ ns).calm.toS fun rows=>(ownAt (τ.set j none) i).toS fun xs=>(ra (τ.set j none)).calm.toS fun as=>(φ (.list rows::as)).calm.toS fun d=>
    if j<τ.length∧xs.length<sizeLine then .nx ((τ.set j none).set i (some (.own (xs++[d]))))else .no
def as4:R D→Bool
 | .ok (.bool true)=>true
 |_=>false
def bK9 (m:List D→R D)(rs:List (Sd→R D))(rr:Sd→R Bool)(i:Nat)(τ:Sd):SR:=
 if(decide (i<τ.length)&&rs.all fun r=>as4 (aT3 m (r (τ.set i none)) (r (ah5 (τ.set i none)))))=true then(rr (τ.set i none)).toS fun k=>if k=true then .rt (.bool false)else .nx (τ.set i none)else .no
def b94 (g:Tg)(re:Sd→R D)(τ:Sd)(x:D):R (Option D):=(ae8 g x (an7 τ g.slots)).bind fun τ2=>(re τ2).bind fun y=> .ok (some y)
def bL0 (rs:Sd→R (List D))(re:Sd→R D)(i:Nat)(g:Tg)(τ:Sd):SR:=((rs τ).bind fun ds=>turns (b94 g re τ) ds).toS fun ys=> .nx (τ.set i (some (.val (.tuple ys))))
def a7d (i:Nat)(x y:D)(τ:Sd):SR:=match x,y with
 | .tuple [p,q],.list zs=> .nx (τ.set i (some (.plv (.tuple [p,q,.tuple zs]))))
 |_,_=> .no
def bL1 (i:Nat)(τ:Sd):D→SR
 | .tuple [st,_]=> .nx (τ.set i (some (.sto st)))
 |_=> .no
def bOf:D×Sd→R (Bool×Sd):=fun p=>(asB p.1).bind fun b=> .ok (b,p.2)
def mxR (i:Nat)(τ:Sd):D→R (D×Sd)
 | .tuple [st,d]=> .ok (d,τ.set i (some (.sto st)))
 |_=> .no
def bL4 (m:List D→R D)(i:Nat)(rr:Sd→R (List D))(τ:Sd):R (D×Sd):=(ad2 τ i).bind fun d=>(rr τ).bind fun ds=>(m (d::ds)).bind (mxR i τ)
def bL5 (ra:Sd→R (D×Sd))(rb:Sd→R D)(g:D→D→R D)(τ:Sd):R (D×Sd):=(ra τ).bind fun p=>(rb p.2).bind fun y=>(g p.1 y).bind fun d=> .ok (d,p.2)
def b96 (c:Bool)(r1 rr:Sd→R (Bool×Sd))(τ:Sd):R (Bool×Sd):=(r1 τ).bind fun p=>if p.1=c then .ok (c,p.2)else rr p.2
def mcR (m:List D→R D)(mc:List D→R D)(i:Nat)(rr:Sd→R (List D))(τ:Sd):R (D×Sd):=(ad2 τ i).bind fun d=>(mc [d]).bind fun st=>(rr τ).bind fun ds=>(m (st::ds)).bind fun r=>match r with
 | .tuple [_,y]=> .ok (y,τ)
 |_=> .no
def nwR (mi me:List D→R D)(neg:Bool)(i:Nat)(re:Sd→R D)(τ:Sd):R (D×Sd):=(ad2 τ i).bind fun d=>(re τ).bind fun x=>(mi [x]).bind fun st=>(sqR neg (me [d,st])).bind fun b=> .ok (b,τ)
def b97:Nat→D→R (D×D)
 |  3,.tuple [s,n,k,.list xs,u]=>(match xs[xs.length-1]? with
    |some x=> .ok (x,.tuple [s,n,k,.list xs.dropLast,u])
    |none=> .no)
 |  4,.tuple [s,n,k,d,.list xs]=>(match xs[xs.length-1]? with
    |some x=> .ok (x,.tuple [s,n,k,d,.list xs.dropLast])
    |none=> .no)
 |_,_=> .no
def b99 (i k:Nat)(τ:Sd):R (D×Sd):=(ad2 τ i).bind fun st=>(b97 k st).bind fun q=> .ok (q.1,τ.set i (some (.sto q.2)))
def dpX (i:Nat)(rk:Sd→R D)(τ:Sd):R (D×Sd):=(aF8 τ i).bind fun kvs=>(rk τ).bind fun y=>if ab8 y=true∧ag5 kvs y=true then(ofO (ak5 kvs y)).bind fun v=> .ok (v,τ.set i (some (.dct (aR9 kvs y))))else .no
def evC (Φ:Nat→List D→R D):XC→Sd→R (D×Sd)
 | .mx i f es=>bL4 (Φ f) i (evs Φ es)
 | .md _ i f es=>bL4 (Φ f) i (evs Φ es)
 | .mc i cp f es=>mcR (Φ f) (Φ cp) i (evs Φ es)
 | .dp i k=>dpX i (ev Φ k)
 | .pa i k=>b99 i k
def evT (Φ:Nat→List D→R D):XT→Sd→R (Bool×Sd)
 | .e a=>fun τ=>((ev Φ a τ).bind asB).bind fun d=> .ok (d,τ)
 | .cm o c a=>fun τ=>(bL5 (evC Φ c) (ev Φ a) (o2 o) τ).bind bOf
 | .nw n i f k a=>fun τ=>(nwR (Φ f) (Φ k) n i (ev Φ a) τ).bind bOf
def evV (Φ:Nat→List D→R D):XT→Sd→R (D×Sd)
 | .e a=>fun τ=>(ev Φ a τ).bind fun d=> .ok (d,τ)
 | .cm o c a=>bL5 (evC Φ c) (ev Φ a) (o2 o)
 | .nw n i f k a=>nwR (Φ f) (Φ k) n i (ev Φ a)
def bL7 (Φ:Nat→List D→R D):List XT→Sd→R (Bool×Sd)
 | []=>fun _=> .no
 | [t]=>evT Φ t
 |t::u::r=>b96 true (evT Φ t) (bL7 Φ (u::r))
def bM1 (Φ:Nat→List D→R D):List XT→Sd→R (D×Sd)
 | []=>fun _=> .no
 | [t]=>fun τ=>((evV Φ t τ).bind bOf).bind fun p=> .ok (.bool p.1,p.2)
 |t::u::r=>fun τ=>((evV Φ t τ).bind bOf).bind fun p=>if p.1=true then bM1 Φ (u::r) p.2 else .ok (.bool false,p.2)
def evP (Φ:Nat→List D→R D):SP→Sd→R Sv
 | .v e=>fun τ=>(ev Φ e τ).bind fun d=> .ok (.val d)
 | .nw f e=>fun τ=>((ev Φ e τ).bind fun d=>Φ f [d]).bind fun st=> .ok (.sto st)
 | .cp i f=>fun τ=>((ad2 τ i).bind fun d=>Φ f [d]).bind fun st=> .ok (.sto st)
def ca0 (Φ:Nat→List D→R D)(l:List (Nat×SP))(τ:Sd):SR:=match l with
 | [(i,p),(j,q)]=>(evP Φ p τ).toS fun a=>(evP Φ q τ).toS fun b=>if i<τ.length∧j<τ.length then .nx ((τ.set i (some a)).set j (some b))else .no
 | [(i,p),(j,q),(l,r)]=>(evP Φ p τ).toS fun a=>(evP Φ q τ).toS fun b=>(evP Φ r τ).toS fun c=>if i<τ.length∧j<τ.length∧l<τ.length then .nx (((τ.set i (some a)).set j (some b)).set l (some c))else .no
 |_=> .no
def xo (Φ:Nat→List D→R D):SO→Sd→SR
 | .put i k e,τ=>(ev Φ e τ).toS fun d=>(ad2 τ i).toS fun st=>(a2z k st d).toS fun st'=> .nx (τ.set i (some (.sto st')))
 | .app i k e,τ=>(if 3≤k then ad2 τ i else .no).toS fun st=>(ev Φ e τ).toS fun d=>(bJ8 k st d).toS fun st'=> .nx (τ.set i (some (.sto st')))
 | .nil i,τ=>(ad2 τ i).toS fun st=>match st with
  | .tuple [s,n,k,d,_]=> .nx (τ.set i (some (.sto (.tuple [s,n,k,d,.list []]))))
  |_=> .no
 | .kpt i k v,τ=>(ev Φ v τ).toS fun y=>(ad2 τ i).toS fun st=>(ev Φ k τ).toS fun x=>match st with
  | .tuple [s,n,.dict kvs,d,u]=>if ai7 x=true∧kvs.length<sizeLine then .nx (τ.set i (some (.sto (.tuple [s,n,.dict (ai9 kvs x y),d,u]))))else .no
  |_=> .no
 | .nxt j i es,τ=>(evs Φ es τ).toS fun ds=>match ds with
  | [d1,.int d2]=>((ad2 τ i).toS fun st=>(a2z 1 st (.int d2)).toS fun st'=> .nx ((τ.set j (some (.val d1))).set i (some (.sto st'))))
  |_=> .no
 | .mex i f es,τ=>(ad2 τ i).toS fun d=>(evs Φ es τ).toS fun ds=>(Φ f (d::ds)).toS (bL1 i τ)
 | .pap i f e,τ=>(ad2 τ i).toS fun d=>((Φ f [d]).bind aK7).toS fun xs=>(ev Φ e τ).toS fun _=>if xs.length<sizeLine then .nx τ else .no
 | .snw i f e,τ=>(ev Φ e τ).toS fun d=>(Φ f [d]).toS fun st=>if i<τ.length then .nx (τ.set i (some (.sto st)))else .no
 | .snw2 i j f e1 e2,τ=>(ev Φ e1 τ).toS fun d1=>(Φ f [d1]).toS fun s1=>(ev Φ e2 τ).toS fun d2=>(Φ f [d2]).toS fun s2=>if i<τ.length∧j<τ.length then .nx ((τ.set i (some (.sto s1))).set j (some (.sto s2)))else .no
 | .cpy j i f,τ=>(ad2 τ i).toS fun d=>(Φ f [d]).toS fun st=>if j<τ.length then .nx (τ.set j (some (.sto st)))else .no
 | .xif ts,τ=>(bL7 Φ ts τ).toS fun p=>if p.1=true then .rt (.bool false)else .nx p.2
 | .xrt ts,τ=>(bM1 Φ ts τ).toS fun p=> .rt p.1
 | .xst j c,τ=>(evC Φ c τ).toS fun q=> .nx (q.2.set j (some (.val q.1)))
 | .xex c,τ=>(evC Φ c τ).toS fun p=> .nx p.2
 | .xpt i k c,τ=>(evC Φ c τ).toS fun z=>(ad2 z.2 i).toS fun st=>(a2z k st z.1).toS fun st'=> .nx (z.2.set i (some (.sto st')))
 | .spar l,τ=>ca0 Φ l τ
 | .tl _ i f es,τ=>(ad2 τ i).toS fun d=>(evs Φ es τ).toS fun ds=>(Φ f (d::ds)).toS .rt
mutual
def x1 (Φ:Nat→List D→R D)(F:Nat):S→Sd→SR
 | .ex e,τ=>(ev Φ e τ).toS fun _=> .nx τ
 | .set g e,τ=>(ev Φ e τ).toS fun d=>(ae8 g d τ).toS .nx
 | .own i e,τ=>(ev Φ e τ).toS fun d=>(match d with
  | .list xs=> .nx (τ.set i (some (.own xs)))
  | .dict kvs=> .nx (τ.set i (some (.dct kvs)))
  |_=> .no)
 | .par l,τ=>(evs Φ (l.map (·.2.2)) τ).toS fun ds=>(ah3 τ (l.map fun p=>(p.1,p.2.1)) ds).toS .nx
 | .ret e,τ=>(ev Φ e τ).toS .rt
 | .reto i,τ=>(ownAt τ i).toS .rf
 | .ife c a b,τ=>((ev Φ c τ).bind asB).toS fun k=>if k=true then xs Φ F a τ else xs Φ F b τ
 | .for_ g e b,τ=>((ev Φ e τ).bind fun d=>ofO (itemsOf d)).toS fun ds=>as3 (fun x τ=>(ae8 g x τ).toS (fun τ2=>xs Φ F b τ2)) ds τ
 | .whl c b,τ=>aw1 (fun τ=>(ev Φ c τ).bind asB) (fun τ=>xs Φ F b τ) F τ
 | .app i e,τ=>(ownAt τ i).toS fun xs=>(ev Φ e τ).toS fun d=>if xs.length<sizeLine then .nx (τ.set i (some (.own (xs++[d]))))else .no
 | .ext i e,τ=>(ownAt τ i).toS fun xs=>(ev Φ e τ).toS fun d=>(ofO (ao5 d)).toS fun ys=>if xs.length+ys.length≤sizeLine then .nx (τ.set i (some (.own (xs++ys))))else .no
 | .raise c,_=> .ex c
 | .pass,τ=> .nx τ
 | .fz l s,τ=>x1 Φ F s (frz τ l)
 | .dset i k v,τ=>(ev Φ v τ).toS fun y=>(aF8 τ i).toS fun kvs=>(ev Φ k τ).toS fun x=>if ab8 x=true∧kvs.length<sizeLine then .nx (τ.set i (some (.dct (ai9 kvs x y))))else .no
 | .dupd i e,τ=>(aF8 τ i).toS fun kvs=>(ev Φ e τ).toS fun y=>(bI2 y).toS fun ps=>if kvs.length+ps.length≤sizeLine then .nx (τ.set i (some (.dct (bI6 kvs ps))))else .no
 | .dpop i k,τ=>(aF8 τ i).toS fun kvs=>(ev Φ k τ).toS fun y=>if ab8 y=true∧ag5 kvs y=true then .nx (τ.set i (some (.dct (aR9 kvs y))))else .no
 | .lpop j i e,τ=>(ownAt τ i).toS fun xs=>(ev Φ e τ).toS fun d=>(bK6 xs d).toS fun q=> .nx ((τ.set i (some (.own q.2))).set j (some (.val q.1)))
 | .buck _ i j n e,τ=>bK8 (fun τ=>(ev Φ n τ).bind fun d=>ofO (itemsOf d)) (fun τ=>ev Φ e τ) i j τ
 | .gds h k i j n es as,τ=>b92 (fun τ=>(ev Φ n τ).bind fun d=>ofO (itemsOf d)) (evs Φ es) (evs Φ as) (Φ h) k i j τ
 | .try_ _ _ b tbl,τ=>bK0 (fun c=>tbl.lookup c) (xs Φ F b τ)
 | .thl i _ f e1 e2 r,τ=>bK9 (Φ f) [ev Φ e1,ev Φ e2] (fun τ=>(ev Φ r τ).bind asB) i τ
 | .tryk k v b,τ=>bK3 k (.bool v) (xs Φ F b τ)
 | .plv i a b,τ=>(ev Φ a τ).toS fun x=>(ev Φ b τ).toS fun y=>a7d i x y τ
 | .plc i a b es,τ=>(ev Φ a τ).toS fun x=>(ev Φ b τ).toS fun y=>(evs Φ es τ).toS fun zs=>if zs.length≤sizeLine then .nx (τ.set i (some (.plv (.tuple [x,y,.tuple zs]))))else .no
 | .tcx i g s e,τ=>bL0 (fun τ=>(ev Φ s τ).bind fun d=>ofO (itemsOf d)) (ev Φ e) i g τ
 | .st o,τ=>xo Φ o τ
 | .top,_=> .no
def xs (Φ:Nat→List D→R D)(F:Nat):List S→Sd→SR
 | [],τ=> .nx τ
 |s::r,τ=>(x1 Φ F s τ).thn fun τ2=>xs Φ F r τ2
end
def ad8 (n:Nat)(ds:List D):Sd:=ds.map (fun d=>some (.val d))++List.replicate (n-ds.length) none
def run (Φ:Nat→List D→R D)(F n k:Nat)(body:List S)(ds:List D):R D:=
 if ds.length=k then(match xs Φ F body (ad8 n ds)with
    | .rt d=> .ok d
    | .rf xs=> .ok (.list xs)
    | .nx _=> .ok .none
    | .ex c=> .ex c
    | .no=> .no)else .no
def a2C (Φ:Nat→List D→R D)(F n k:Nat)(body:List S)(ds:List D):R D:=
 if ds.length=k then(match xs Φ F body (ad8 n ds)with
    | .rf xs=> .ok (.list xs)
    | .ex c=> .ex c
    |_=> .no)else .no
end Fz
namespace Fz
open PySem PySem.Spec L2
variable [aa0] [FnT]
theorem aT4 (σ:St): ∀(js:List Nat) (k:Nat),(L2.wipe σ js)[k]? =if k∈js then(σ[k]?).map (fun _=>none)else σ[k]?
 | [],k=>by simp[L2.wipe]
 |v::vs,k=>by
  have ih:=aT4 σ vs k
  unfold L2.wipe
  by_cases hv:v=k
  ·subst hv
   simp only[List.mem_cons,true_or,if_true]
   by_cases hl:v<σ.length
   ·rw[List.getElem?_set_self (by rw[L2.wipe_length];exact hl),List.getElem?_eq_getElem hl];rfl
   ·rw[List.getElem?_eq_none (by rw[List.length_set,L2.wipe_length];omega),List.getElem?_eq_none (by omega)];rfl
  ·rw[List.getElem?_set_ne hv,ih]
   simp only[List.mem_cons,show ¬k=v from fun e=>hv e.symm,false_or]
theorem ca1 (σ:St)(js:List Nat):L2.wipe (L2.wipe σ js) js=L2.wipe σ js:=by
 apply List.ext_getElem?
 intro k
 rw[aT4,aT4]
 by_cases h:k∈js
 ·simp only[h,if_true,Option.map_map];rfl
 ·simp only[h,if_false]
def af2:St→List Nat→List V→St
 |σ,i::is,v::vs=>af2 (σ.set i (some v)) is vs
 |σ,_,_=>σ
theorem a7f: ∀ {is:List Nat} {vs:List V} {σ:St},(af2 σ is vs).length=σ.length
 | [],_,_=>by simp[af2]
 |_::_,[],_=>by simp[af2]
 |i::is,v::vs,σ=>by rw[af2,a7f,List.length_set]
theorem bM5: ∀ {is:List Nat} {vs:List V} {σ:St} {k:Nat},k∉is→(af2 σ is vs)[k]? =σ[k]?
 | [],_,_,_,_=>by simp[af2]
 |_::_,[],_,_,_=>by simp[af2]
 |i::is,v::vs,σ,k,h=>by
  rw[af2,bM5 (fun z=>h (List.mem_cons_of_mem _ z)),List.getElem?_set_ne (fun e=>h (by simp[e]))]
theorem a7h {is:List Nat}{vs:List V}{σ:St}:L2.wipe (af2 σ is vs) is=L2.wipe σ is:=by
 apply List.ext_getElem?
 intro k
 rw[aT4,aT4]
 by_cases h:k∈is
 ·simp only[h,if_true]
  by_cases hl:k<σ.length
  ·rw[List.getElem?_eq_getElem hl,List.getElem?_eq_getElem (by rw[a7f];exact hl)];rfl
  ·rw[List.getElem?_eq_none (l:=af2 σ is vs) (by rw[a7f];omega),List.getElem?_eq_none (l:=σ) (by omega)]
 ·simp only[h,if_false]
  exact bM5 h
theorem RS.af2 {K:Fr'}{O:List Addr}{H:Hp}: ∀ {is:List Nat} {vs:List V} {ds:List D} {σ:St} {τ:Sd},RS K O H σ τ→aa1 K (hide H O) vs ds→is.length=ds.length→RS K O H (Fz.af2 σ is vs) (Fz.ak7 τ is ds)
 | [],vs,ds,σ,τ,r,q,_=>by cases q<;>simpa[Fz.ak7,Fz.af2]using r
 |i::is,_,_,σ,τ,r,.cons h1 h2,hl=>by
  have q:=RS.af2 (is:=is) (r.aS6 (i:=i) h1) h2 (by simpa using hl)
  simpa[Fz.ak7,Fz.af2]using q
 |_::_,_,_,_,_,_,.nil,hl=>by simp at hl
def tG (K:Fr')(g:Tg):TG:=fun v σ H Q=> ∃O τ d τ2,RS K O H σ τ∧Rp K (hide H O) v d∧ae8 g d τ= .ok τ2∧ ∀σ2,RS K O H σ2 τ2→L2.wipe σ2 g.slots=L2.wipe σ g.slots→Q σ2 H
def Sto (X:Cx)(x:Str)(i:Nat):Prop:=X.N[i]? =some x∧Loc X.env.scope x∧(X.fn x=true∨X.env.scope.names.lookup x=some .local)
section
variable {X:Cx}
theorem ca2 {i:Nat}{x:Str}{pos:Pos}(hN:X.N.Nodup)(h:Sto X x i):PG X (.Name x pos) (tG X.K (.one i)):=by
 refine(pg_name hN h.1 h.2.1 h.2.2).aa7 fun v σ H Q ⟨O,τ,d,τ2,rs,rp,hb,q⟩=> ?_
 cases hb
 exact q _ (rs.aS6 rp) (a7h (is:=[i]) (vs:=[v]))
def gsN:List Nat→TGs
 | []=>gNil
 |i::is=>gCons (gName i) (gsN is)
inductive az0 (X:Cx):List Expr→List Nat→Prop
 |nil:az0 X [] []
 |cons {x:Str} {pos:Pos} {i:Nat} {es:List Expr} {is:List Nat}:Sto X x i→az0 X es is→az0 X (.Name x pos::es) (i::is)
theorem a2D: ∀ {is:List Nat} {vs:List V} {σ:St} {H:Hp} {Q:St→Hp→Prop},vs.length=is.length→Q (af2 σ is vs) H→gsN is vs σ H Q
 | [],[],σ,H,Q,_,h=>⟨rfl,h⟩
 |i::is,v::vs,σ,H,Q,hl,h=>⟨v,vs,rfl,a2D (by simpa using hl) h⟩
 | [],_::_,_,_,_,hl,_=>by simp at hl
 |_::_,[],_,_,_,hl,_=>by simp at hl
theorem bM7 {es:List Expr}{is:List Nat}(hN:X.N.Nodup)(h:az0 X es is):PGs X es (gsN is)∧(assignEach es X.env).length=is.length∧(assignEach es X.env).findIdx? (·.1)=none:=by
 induction h with
 |nil=>exact⟨pgs_nil,rfl,rfl⟩
 |cons s _ ih=>
  obtain⟨h1,h2,h3⟩:=ih
  refine⟨pgs_cons (pg_name hN s.1 s.2.1 s.2.2) h1 rfl,?_,?_⟩
  ·show List.length (_::assignEach _ X.env)=_
   rw[List.length_cons,h2];rfl
  ·show List.findIdx? _ (_::assignEach _ X.env)=none
   rw[List.findIdx?_cons]
   simp only[h3]
   rfl
theorem ca3 {es:List Expr}{is:List Nat}{k:Nat}{pos:Pos}(hc:X.calm=true)(hN:X.N.Nodup)(h:az0 X es is):PG X (.Tuple es k pos) (tG X.K (.tup is)):=by
 obtain⟨h1,h2,h3⟩:=bM7 hN h
 refine⟨fun pins s σ H v u Q I r hh=> ?_⟩
 obtain⟨O,τ,d,τ2,rs,rp,hb,q⟩:=hh
 unfold ae8 at hb
 cases d with
 |list ds=>
  simp only[ao5]at hb
  split at hb
  ·rename_i hl
   cases hb
   cases rp with
   |    lst qq rr z=>
        have n:=rr.length
        exact(pg_unl hc h1 h2 h3).run pins s σ H _ u Q I r ⟨_,_,rfl,aE9 aa9 qq,by omega,a2D (by omega) (q _ (rs.af2 rr hl.symm) a7h)⟩
  ·cases hb
 |tuple ds=>
  simp only[ao5]at hb
  split at hb
  ·rename_i hl
   cases hb
   cases rp with
   |    tup qq rr z=>
        have n:=rr.length
        exact(pg_tup hc h1 h2 h3).run pins s σ H _ u Q I r ⟨_,_,rfl,af0 aa9 qq.t,by omega,a2D (by omega) (q _ (rs.af2 rr hl.symm) a7h)⟩
  ·cases hb
 |_=>cases hb
theorem bM8 {f:D→R (Option D)}: ∀ {ds ys:List D},turns f ds= .ok ys→ys.length≤ds.length
 | [],ys,h=>by cases h;simp
 |d::ds,ys,h=>by
  unfold turns at h
  cases hf:f d with
  |ok o=>
   rw[hf]at h
   simp only[R.ai6]at h
   cases ht:turns f ds with
   |    ok zs=>
        rw[ht]at h
        cases h
        have:=bM8 ht
        cases o
        ·simp only[List.length_cons];omega
        ·simp only[List.length_cons];omega
   |ex c=>rw[ht]at h;cases h
   |no=>rw[ht]at h;cases h
  |ex c=>rw[hf]at h;cases h
  |no=>rw[hf]at h;cases h
theorem ca4 {f:D→R (Option D)}{d:D}{ds ys:List D}(h:turns f (d::ds)= .ok ys): ∃o zs,f d= .ok o∧turns f ds= .ok zs∧ys=(match o with|some y=>y::zs|none=>zs):=by
 unfold turns at h
 cases hf:f d with
 |ok o=>
  rw[hf]at h
  simp only[R.ai6]at h
  cases ht:turns f ds with
  |ok zs=>rw[ht]at h;cases h;exact⟨o,zs,rfl,rfl,rfl⟩
  |ex c=>rw[ht]at h;cases h
  |no=>rw[ht]at h;cases h
 |ex c=>rw[hf]at h;cases h
 |no=>rw[hf]at h;cases h
theorem a7j {O:List Addr}{H1 H2:Hp}{a:Addr}(h:Fr H1 a)(e:Ex H1 H2):Ex (hide H1 O) (hide H2 (a::O)):=fun b o q n=>by
 obtain⟨h1,h2⟩:=au6 q
 have hb:b≠a:=fun z=>by
  subst z
  obtain⟨ps,w⟩:=h o h2
  exact n ps w
 rw[ac1 (by simp[hb,h1])]
 exact e b o h2 n
theorem a2L {O:List Addr}{H1 H2:Hp}{a:Addr}(h:Fr H1 a)(e:Same H1 H2)(L:ab3 H2 (a::O)):Same (hide H1 O) (hide H2 (a::O)):=
 ⟨a7j h e.ex,fun t=>au7 L (e.tab (ay2.tab t))⟩
theorem RS.ca6 {K:Fr'}{O:List Addr}{H1 H2:Hp}{σ:St}{τ:Sd}{a:Addr}{vs:List V}(r:RS K O H1 σ τ)(h:Fr H1 a)(e:Same H1 H2)(h2:H2 a=some (.lst vs)):RS K (a::O) H2 σ τ:=
 r.a6m e h h2 (.inl ⟨_,rfl⟩)
abbrev W0:WX:=fun _ _ _ _=>False
def aT6 (g:Tg)(rt:Sd→R Bool)(re:Sd→R D)(τ:Sd)(x:D):R (Option D):=(ae8 g x (an7 τ g.slots)).bind fun τ2=>(rt τ2).bind fun k=>
 if k=true then(re τ2).bind fun y=> .ok (some y)else .ok none
variable {C:Nat→Addr} {W:WX}
theorem ca7 {elt tg iter:Expr}{ifs:List Expr}{scope:Scope}{own:List (Str×Nat)}{pos:Pos}{g:Tg}{ms:Bool}{rsrc:Sd→R (List D)}{rt:Sd→R Bool}{re:Sd→R D}(hc:X.calm=true)(hN:X.N.Nodup)(hi:PIx X C W ms tg iter rsrc)(ok:BlkOk X.N X.env.scope scope own)(hown:own.map (·.2)=g.slots)
  (hg: ∀(s:Shared) (H:Hp) (Cc:Addr) (cl:List (Str×Addr)) (fp:List Addr),PG (X.blk s H scope (compEnvC scope cl Cc X.env) fp) tg (tG X.K g))
  (ht: ∀(s:Shared) (H:Hp) (Cc:Addr) (cl:List (Str×Addr)) (fp:List Addr),PTs (X.blk s H scope (compEnvC scope cl Cc X.env) fp) ifs (tR X.K C W0 rB rt))
  (he: ∀(s:Shared) (H:Hp) (Cc:Addr) (cl:List (Str×Addr)) (fp:List Addr),PEx (X.blk s H scope (compEnvC scope cl Cc X.env) fp) C W0 true elt re):
  ∀ {σ:St} {H:Hp} {Q:VK},tF X.K C W (fun τ=>(rsrc τ).bind fun ds=>(turns (aT6 g rt re τ) ds).calm.bind fun ys=> .ok (.list ys)) σ H Q→
    tLc (tR X.K C W (rI X.K ms) rsrc) (tG X.K g) (tR X.K C W0 rB rt) (tR X.K C W0 (rM X.K true) re) (own.map (·.2)) σ H Q:=by
 intro σ H Q hh
 obtain⟨O,τ,rs,hh⟩:=hh
 refine⟨O,τ,rs,Ans.step hh fun ds J H1 e1 wk a1=> ?_⟩
 intro Dd hD
 cases hys:turns (aT6 g rt re τ) ds with
 |ex c=>rw[hys]at a1;exact a1.elim
 |no=>rw[hys]at a1;exact a1.elim
 |ok ys=>
 rw[hys]at a1
 obtain⟨hsz,wk⟩:=wk
 have hlen:=bM8 hys
 have rs1:=rs.mono e1
 rw[hown]
 refine lc_it wk (fun i H2=>Same H1 H2∧ ∃acc ya rest,H2 Dd=some (.lst acc)∧aa1 X.K (hide H2 (Dd::O)) acc ya∧turns (aT6 g rt re τ) (ds.drop i)= .ok rest∧ya++rest=ys) ?_ ?_ ?_ ?_
 ·exact⟨ab2 hD,[],[],ys,upd_same,.nil,by simpa using hys,rfl⟩
 ·exact fun i H2 _ p=>Still.of p.1
 ·intro  i x H2 H3 hi ⟨e2,acc,ya,rest,h1,h2,h3,h4⟩ y
  have rsD:RS X.K (Dd::O) H2 σ τ:=rs1.ca6 (.of hD) e2 h1
  obtain⟨d,hd,e3,rp⟩:=y.rp (O:=Dd::O) rsD.lst (a7j (.of hD) e2.ex)
  have hdrop:ds.drop i=d::ds.drop (i+1):=by
    obtain⟨hl,q⟩:=List.getElem?_eq_some_iff.mp hd
    rw[List.drop_eq_getElem_cons hl,q]
  rw[hdrop]at h3
  obtain⟨o,zs,hf,hzs,hrest⟩:=ca4 h3
  unfold aT6 at hf
  cases hb:ae8 g d (an7 τ g.slots)with
  |ex c=>rw[hb]at hf;cases hf
  |no=>rw[hb]at hf;cases hf
  | ok τ2  =>
    rw[hb]at hf
    simp only[R.ai6]at hf
    refine⟨Dd::O,an7 τ g.slots,d,τ2,(rsD.mono e3).wipe g.slots,rp,hb,fun σ2 rs2 hw=>⟨?_,?_⟩⟩
    ·rw[hw];exact ca1 σ g.slots
    cases hk:rt τ2 with
    |ex c=>rw[hk]at hf;cases hf
    |no=>rw[hk]at hf;cases hf
    |   ok k=>
        rw[hk]at hf
        simp only[R.ai6]at hf
        refine⟨Dd::O,τ2,rs2,?_⟩
        rw[hk]
        intro b H4 e4 hbk
        cases hbk
        cases k with
        |false=>
         simp only[Bool.false_eq_true,if_false]at hf ⊢
         cases hf
         exact⟨e2.trans (e3.trans e4),acc,ya,rest,e4.lst (e3.lst h1),h2.mono (Same.hide (e3.trans e4)),by rw[hrest];exact hzs,h4⟩
        |true=>
         simp only[if_true]at hf ⊢
         cases hr:re τ2 with
         |ex c=>rw[hr]at hf;cases hf
         |no=>rw[hr]at hf;cases hf
         | ok yv=>
           rw[hr]at hf
           simp only[R.ai6]at hf
           cases hf
           have hrest':rest=yv::zs:=hrest
           subst hrest'
           refine⟨Dd::O,τ2,rs2.mono e4,?_⟩
           rw[hr]
           intro v H5 e5 rv
           have e6:=e3.trans (e4.trans e5)
           have hD5:H5 Dd=some (.lst acc):=e6.lst h1
           have n1:=h2.length
           have n2:ya.length+(zs.length+1)=ys.length:=by rw[←h4];simp
           refine⟨acc,hD5,by omega,?_,acc++[v],ya++[yv],zs,upd_same,?_,hzs,by simpa using h4⟩
           ·exact aF2 (e2.trans e6) (.of hD) hD5
           · rw[ay3 List.mem_cons_self]
             exact(h2.mono (Same.hide e6)).append (.cons rv .nil)
 ·intro H2 ⟨e2,acc,ya,rest,h1,h2,h3,h4⟩
  have hr:rest=[]:=by
    rw[List.drop_eq_nil_of_le (Nat.le_refl _)]at h3
    cases h3;rfl
  subst hr
  rw[List.append_nil]at h4
  subst h4
  exact a1 _ H2 e2 (.inl ⟨Dd,acc,ya,rfl,rfl,e1.ex.free (.of hD),h1,h2,by omega⟩)
def spM (K:Fr')(C:Nat→Addr)(m:List D→R D):Sp:=fun vs H Q E=> ∃ds,aa1 K H vs ds∧LamX.Tabs aa0.T H∧(match m ds with
 | .ok d=> ∀v H',Same H H'→Rp K H' v d→Q v H'
 | .ex c=> ∀H',Same H H'→E (.ref (C c)) none H'
 | .no=>False)
def Fn (X:Cx)(C:Nat→Addr)(x:Str)(m:List D→R D):Prop:= ∃k f fd ps,FnOk X.prog X.w X.K X.mg X.base (L2.CX X.prog X.w) k f fd ps (spM X.K C m)∧Room k X.A∧X.mg x=some (.ref f)∧PySem.W.keepIn X.K (.ref f)=true∧Binds X.K fd ps []∧(x==("__debug__":Str))=false
def rFr (K:Fr')(H H':Hp)(v:V)(d:D):Prop:= ∃p vs xs,v= .ref p∧d= .list xs∧Fr H p∧H' p=some (.lst vs)∧aa1 K (hide H' [p]) vs xs∧xs.length≤sizeLine
def spF (K:Fr')(C:Nat→Addr)(m:List D→R D):Sp:=fun vs H Q E=> ∃ds,aa1 K H vs ds∧LamX.Tabs aa0.T H∧(match m ds with
 | .ok d=> ∀v H',Same H H'→rFr K H H' v d→Q v H'
 | .ex c=> ∀H',Same H H'→E (.ref (C c)) none H'
 | .no=>False)
theorem rFr.rp {K:Fr'}{H H':Hp}{v:V}{d:D}(h:rFr K H H' v d):Rp K H' v d:=by
 obtain⟨p,vs,xs,rfl,rfl,_,a,b,c⟩:=h
 exact .lst (.of a) (b.mono aa9) c
theorem ca8 {K:Fr'}{C:Nat→Addr}{m:List D→R D}{vs:List V}{H:Hp}{Q:VK}{E:XK}(h:spM K C m vs H Q E):spF K C m vs H Q E:=by
 obtain⟨ds,a,b,c⟩:=h
 refine⟨ds,a,b,?_⟩
 cases hm:m ds with
 |ok d=>rw[hm]at c;exact fun v H' s r=>c v H' s r.rp
 |ex k=>rw[hm]at c;exact c
 |no=>rw[hm]at c;exact c
theorem ca9 {H:Hp}{O:List Addr}{p:Addr}:hide (hide H O) [p]=hide H (p::O):=by
 funext b
 by_cases h1:b=p
 ·subst h1
  rw[am9 (by simp),am9 (by simp)]
 ·by_cases h2:b∈O
  ·rw[ac1 (by simpa using h1),am9 h2,am9 (by simp[h2])]
  ·rw[ac1 (by simpa using h1),ac1 h2,ac1 (by simp[h1,h2])]
def bM9 (X:Cx)(C:Nat→Addr)(x:Str)(m:List D→R D):Prop:= ∃k f fd ps,FnOk X.prog X.w X.K X.mg X.base (L2.CX X.prog X.w) k f fd ps (spF X.K C m)∧Room k X.A∧X.mg x=some (.ref f)∧PySem.W.keepIn X.K (.ref f)=true∧Binds X.K fd ps []∧(x==("__debug__":Str))=false
theorem cb3 {m:List D→R D}{x:Str}{p pos:Pos}{e:Expr}{es:List Expr}{rr:Sd→R (List D)}(F:bM9 X C x m)(hg:Gl X x)(tk:Takes X W)(ha:PAx X C W (e::es) rr)
  (he:starEach (e::es) X.env=(false,eval e X.env)::starEach es X.env) (hpl:(backTo pos (starEach es X.env)).any (·.1)=false):
  PFx X C W (.Call (.Name x p) (e::es) [] pos) (fun τ=>(rr τ).bind m):=by
 obtain⟨k,f,fd,ps,F,hr,hm,hk,hb,hdb⟩:=F
 refine⟨fun pins s σ H Q I h=> ?_⟩
 obtain⟨O,τ,rs,h⟩:=h
 refine wpAny_Call_Name_kw (ld_glob I hg hm ?_ hdb)
 refine PySem.W.callWith_K (h₀:=X.base) I.ok.mod.kin hk (thn (ha.run pos pins s σ H (fun vs H1=>Same H H1∧ ∃ds,aa1 X.K (hide H1 O) vs ds∧Ans C W O H1 σ (rF X.K O H) Q (m ds)) I ⟨O,τ,rs,Ans.step h fun ds vs H1 e1 r a=>⟨e1,ds,r,a⟩⟩) fun us s1 ⟨vs,H1,I1,r,e1,ds,rp,q⟩=>⟨I1.kIn,?_⟩) he hpl
 have L:=(rs.mono e1).lst
 have Ih:=Inv.hide I1 L
 refine thn (run_fnS (Q:=fun v H2=>Same (hide H1 O) H2∧(∀H3,hide H3 O=H2→Same H1 H3→(∀a∈O,H2 a=none)→Q v H3)) (E:=WE W) F hr hb (passAt tk σ) Ih r ⟨ds,rp,au7 L (rs.mono e1).tab,?_⟩) fun v s2 hq=> ?_
 ·cases hmd:m ds with
  |ok d=>
   rw[hmd]at q
   refine fun v H2 e2 rv=>⟨e2,fun H3 e3 e4 hn=>q v H3 e4 ?_⟩
   obtain⟨p,ws,xs,rfl,rfl,f1,f2,f3,f4⟩:=rv
   have hp:p∉O:=fun z=>by rw[hn p z]at f2;cases f2
   refine .inl ⟨p,ws,xs,rfl,rfl,e1.ex.free (fun o z=>f1 o (by rw[ac1 hp];exact z)),?_,?_,f4⟩
   ·rw[←e3,ac1 hp]at f2;exact f2
   ·rw[←e3,ca9]at f3;exact f3
  |ex c=>rw[hmd]at q;exact fun H' e'=>q H' (.of L e')
  |no=>rw[hmd]at q;exact q.elim
 ·obtain⟨u,H2,I2,r2,e2,q2⟩:=hq
  obtain⟨I3,hn⟩:=Inv.ao7 I1 L I2
  exact⟨u,_,I3,r2,q2 _ (aS3 hn) (aS5 L hn e2) hn⟩
theorem cb4 {m:List D→R D}{x:Str}{p pos:Pos}{e:Expr}{es:List Expr}{rr:Sd→R (List D)}{md:Bool}(F:Fn X C x m)(hg:Gl X x)(tk:Takes X W)(ha:PAx X C W (e::es) rr)
  (he:starEach (e::es) X.env=(false,eval e X.env)::starEach es X.env) (hpl:(backTo pos (starEach es X.env)).any (·.1)=false):
  PEx X C W md (.Call (.Name x p) (e::es) [] pos) (fun τ=>(rr τ).bind m):=by
 obtain⟨k,f,fd,ps,F,hr,hm,hk,hb,hdb⟩:=F
 refine⟨fun pins s σ H Q I h=> ?_⟩
 obtain⟨O,τ,rs,h⟩:=h
 refine wpAny_Call_Name_kw (ld_glob I hg hm ?_ hdb)
 refine PySem.W.callWith_K (h₀:=X.base) I.ok.mod.kin hk (thn (ha.run pos pins s σ H (fun vs H1=>Same H H1∧ ∃ds,aa1 X.K (hide H1 O) vs ds∧Ans C W O H1 σ (rM X.K md O) Q (m ds)) I ⟨O,τ,rs,Ans.step h fun ds vs H1 e1 r a=>⟨e1,ds,r,a⟩⟩) fun us s1 ⟨vs,H1,I1,r,e1,ds,rp,q⟩=>⟨I1.kIn,?_⟩) he hpl
 have L:=(rs.mono e1).lst
 have Ih:=Inv.hide I1 L
 refine thn (run_fnS (Q:=fun v H2=>Same (hide H1 O) H2∧(∀H3,hide H3 O=H2→Same H1 H3→Q v H3)) (E:=WE W) F hr hb (passAt tk σ) Ih r ⟨ds,rp,au7 L (rs.mono e1).tab,?_⟩) fun v s2 hq=> ?_
 ·cases hmd:m ds with
  |ok d=>
   rw[hmd]at q
   exact fun v H2 e2 rv=>⟨e2,fun H3 e3 e4=>q v H3 e4 (ad1 (by rw[e3];exact rv))⟩
  |ex c=>rw[hmd]at q;exact fun H' e'=>q H' (.of L e')
  |no=>rw[hmd]at q;exact q.elim
 ·obtain⟨u,H2,I2,r2,e2,q2⟩:=hq
  obtain⟨I3,hn⟩:=Inv.ao7 I1 L I2
  exact⟨u,_,I3,r2,q2 _ (aS3 hn) (aS5 L hn e2)⟩
theorem cb5 {m:List D→R D}{x:Str}{p pos:Pos}{md:Bool}(F:Fn X C x m)(hg:Gl X x)(tk:Takes X W):
  PEx X C W md (.Call (.Name x p) [] [] pos) (fun τ=>(R.ok ([]:List D)).bind m):=by
 obtain⟨k,f,fd,ps,F,hr,hm,hk,hb,hdb⟩:=F
 refine⟨fun pins s σ H Q I h=> ?_⟩
 obtain⟨O,τ,rs,q⟩:=h
 refine wpAny_Call_Name_kw (ld_glob I hg hm ?_ hdb)
 refine PySem.W.callWith_K0 I.kIn hk ?_
 have L:=rs.lst
 have Ih:=Inv.hide I L
 replace q:Ans C W O H σ (rM X.K md O) Q (m []):=q
 refine thn (run_fnS (us:=[]) (vs:=[]) (Q:=fun v H2=>Same (hide H O) H2∧(∀H3,hide H3 O=H2→Same H H3→Q v H3)) (E:=WE W) F hr hb (passAt tk σ) Ih .nil ⟨[],.nil,au7 L rs.tab,?_⟩) fun v s2 hq=> ?_
 ·cases hmd:m []with
  |ok d=>
   rw[hmd]at q
   exact fun v H2 e2 rv=>⟨e2,fun H3 e3 e4=>q v H3 e4 (ad1 (by rw[e3];exact rv))⟩
  |ex c=>rw[hmd]at q;exact fun H' e'=>q H' (.of L e')
  |no=>rw[hmd]at q;exact q.elim
 ·obtain⟨u,H2,I2,r2,e2,q2⟩:=hq
  obtain⟨I3,hn⟩:=Inv.ao7 I L I2
  exact⟨u,_,I3,r2,q2 _ (aS3 hn) (aS5 L hn e2)⟩
end
end Fz
namespace Fz
open PySem PySem.Spec L2
variable [aa0] [FnT]
section
variable {X:Cx} {C:Nat→Addr} {W:WX} {a b c:Expr} {ra rb rc:Sd→R D} {p p2 pos pos2:Pos}
theorem bN0 (d:D)(l h:Option Int)(n:Nat):au5 d l h≠ .ex n:=by cases d<;>first|(intro h;cases h;done)|(intro q;simp only[au5]at q;split at q<;>simp at q)
theorem bN1 {m:Bool}{O:List Addr}{H:Hp}{σ:St}{τ:Sd}{Q:VK}{x:D}{v:V}{l h:Option Int}(rs:RS X.K O H σ τ)(vd:Vd X.K O H v x)(z:Ans C W O H σ (rM X.K m O) Q (au5 x l h)):rSl X.K v l h H Q:=by
 cases hz:au5 x l h with
 |ex c=>exact absurd hz (bN0 x l h c)
 |no=>rw[hz]at z;exact z.elim
 |ok d=>rw[hz]at z;exact⟨O,x,d,rs.lst,vd,hz,fun w H' e q=>z w H' e (ad1 q)⟩
theorem cb8 {m ma mb:Bool}(ha:PEx X C W ma a ra)(hb:PEx X C W mb b rb):PEx X C W m (.Subscript a (.Slice (some b) none none p2) pos) (fun τ=>(ra τ).bind fun x=>(rb τ).bind fun y=>o2 .from x y):=by
 refine(pe_slice bD4 ha (po_some hb) po_none).aa7 fun σ H Q hh=> ?_
 obtain⟨O,τ,rs,hh⟩:=hh
 refine⟨O,τ,rs,Ans.step hh fun x v H1 e1 r1 z1=>⟨O,τ,rs.mono e1,Ans.step z1 fun y u H2 e2 r2 z2=> ?_⟩⟩
 cases y<;>try (cases x<;>exact z2.elim)
 rename_i i
 cases Vd.int (ac0 r2)
 exact⟨i,rfl,bN1 (m:=m) (rs.mono (e1.trans e2)) ((ac0 r1).mono e2) (by cases x<;>exact z2)⟩
theorem cc0 {m ma mb:Bool}(ha:PEx X C W ma a ra)(hb:PEx X C W mb b rb):PEx X C W m (.Subscript a (.Slice none (some b) none p2) pos) (fun τ=>(ra τ).bind fun x=>(rb τ).bind fun y=>o2 .to x y):=by
 refine(pe_slice bD4 ha po_none (po_some hb)).aa7 fun σ H Q hh=> ?_
 obtain⟨O,τ,rs,hh⟩:=hh
 refine⟨O,τ,rs,Ans.step hh fun x v H1 e1 r1 z1=>⟨O,τ,rs.mono e1,Ans.step z1 fun y u H2 e2 r2 z2=> ?_⟩⟩
 cases y<;>try (cases x<;>exact z2.elim)
 rename_i i
 cases Vd.int (ac0 r2)
 exact⟨i,rfl,bN1 (m:=m) (rs.mono (e1.trans e2)) ((ac0 r1).mono e2) (by cases x<;>exact z2)⟩
theorem aT8 {m ma:Bool}{T:String}{x:Str}{g:D→Bool}{g1:D→R D}(hk: ∀d,(∀kvs,d≠ .dict kvs)→kitB (tyName d) T=some (g d))(hg1: ∀d,(∀kvs,d≠ .dict kvs)→g1 d= .ok (.bool (g d)))(hgd: ∀kvs,g1 (.dict kvs)= .no)(hgl:Gl X "isinstance")(hm:X.mg "isinstance"=none)(hg2:Gl X x)(hm2:X.mg x=none)(hv2:bootBuiltins x=some (.type T))(ha:PEx X C W ma a ra)
  (hs:starEach [a,.Name x p2] X.env=(false,eval a X.env)::starEach [.Name x p2] X.env) (hn:x≠"__name__") (hd:(x==("__debug__":Str))=false):
  PEx X C W m (.Call (.Name "isinstance" p) [a,.Name x p2] [] pos) (fun τ=>(ra τ).bind g1):=by
 refine(pe_callB (b8t hk) hgl hm (by decide+kernel) (pa_cons ha (pa_cons (pe_bltn (v:= .ty T) hg2 hm2 hv2 rfl hn hd) pa_nil rfl) hs) (by decide) (by decide) hs rfl).aa7 fun σ H Q hh=> ?_
 obtain⟨O,τ,rs,hh⟩:=hh
 refine⟨O,τ,rs,Ans.step hh fun d v H1 e r z=> ?_⟩
 by_cases hq: ∃kvs,d= .dict kvs
 ·obtain⟨kvs,rfl⟩:=hq
  rw[hgd kvs]at z
  exact z.elim
 ·have nd: ∀kvs,d≠ .dict kvs:=fun kvs z=>hq ⟨kvs,z⟩
  rw[hg1 d nd]at z
  exact⟨O,v,d,rfl,(rs.mono e).lst,ac0 r,nd,z _ H1 (Same.refl _) (ad1 (.bl _))⟩
omit [aa0]in
theorem a7k: ∀(xs acc:List D),(firsts acc xs).length≤acc.length+xs.length
 | [],acc=>by simp[firsts]
 |x::r,acc=>by
  unfold firsts
  split
  ·have:=a7k r acc;simp only[List.length_cons];omega
  ·have:=a7k r (acc++[x]);simp only[List.length_cons,List.length_append,List.length_nil]at this ⊢;omega
omit [aa0]in
theorem cc1 {l m:List D}(h:PySem.W.AllAlike m)(hm:m.Perm l):ae0 m=ae0 l:=by
 have hl:PySem.W.AllAlike l:=fun a ha b hb=>h a (hm.mem_iff.mpr ha) b (hm.mem_iff.mpr hb)
 rw[←a1O hl hm,a1O h (List.Perm.refl m)]
theorem cc3 {m ma:Bool}(hc:X.calm=true)(hu:X.A.units+64<cLine)(hgl:Gl X "sorted")(hm:X.mg "sorted"=none)(hg2:Gl X "set")(hm2:X.mg "set"=none)(ha:PEx X C W ma a ra)
  (hs:starEach [a] X.env=(false,eval a X.env)::starEach [] X.env):
  PEx X C W m (.Call (.Name "sorted" p) [.Call (.Name "set" p2) [a] [] pos2] [] pos) (fun τ=>(ra τ).bind (o1 .sset)):=by
 refine(pe_callB (b8S hc hu) hgl hm (by decide+kernel) (pa_cons (pe_callTy (bE4 hc hu) hg2 hm2 (by decide+kernel) (pa_cons ha pa_nil hs) (by decide) (by decide) hs rfl) pa_nil rfl) (by decide) (by decide) rfl rfl).aa7 fun σ H Q hh=> ?_
 obtain⟨O,τ,rs,hh⟩:=hh
 refine⟨O,τ,rs,Ans.step hh fun d v H1 e r z=> ?_⟩
 have rs1:=rs.mono e
 have key: ∀ds,ao5 d=some ds→Ans C W O H1 σ (rM X.K m O) Q (if setOk ds=true∧sortable ds=true then .ok (.list (ae0 (firsts [] ds)))else .no)→bE3 X.w X.K [v] H1 (fun x H1=>bE5 X.w X.K [x] H1 Q):=by
  intro ds hds z
  split at z
  ·rename_i hk
   refine⟨O,v,d,ds,rfl,rs1.lst,ac0 r,hds,hk.1,fun a o ds' hn sd hl hsub hperm=> ?_⟩
   have e2:Same H1 (upd H1 a (setAt a o)):=ab2 hn
   have hp:=hperm (av4 hk.2)
   have hl1:=a7k ds []
   have so:=b8M hk.2 hsub (by simp at hl1;omega)
   have hl2:ds.length≤sizeLine:=by
        have:=ac0 r
        cases d<;>try cases hds
        ·obtain⟨_,_,_,_,_,z⟩:=Vd.list this;exact z
        ·obtain⟨_,_,_,_,_,z⟩:=Vd.tuple this;exact z
   refine⟨O,a,o,ds',rfl,(rs1.mono e2).lst,upd_same,sd.mono (Same.hide e2),so,by simp at hl1;omega,fun v H' e3 rv=> ?_⟩
   rw[cc1 (av4 so) hp]at rv
   exact z v H' (e2.trans e3) (ad1 rv)
  ·exact z.elim
 cases d<;>try exact z.elim
 ·exact key _ rfl z
 ·exact key _ rfl z
theorem cc4 {m ma mb:Bool}(hc:X.calm=true)(hgl:Gl X "max")(hm:X.mg "max"=none)(ha:PEx X C W ma a ra)(hb:PEx X C W mb b rb)
  (hs:starEach [a,b] X.env=(false,eval a X.env)::starEach [b] X.env) (hs2:starEach [b] X.env=(false,eval b X.env)::starEach [] X.env) (hpl:(backTo pos (starEach [b] X.env)).any (·.1)=false):
  PEx X C W m (.Call (.Name "max" p) [a,b] [] pos) (fun τ=>(ra τ).bind fun x=>(rb τ).bind fun y=>o2 .max2 x y):=by
 refine(pe_callB (call_max2 hc) hgl hm (by decide+kernel) (pa_cons ha (pa_cons hb pa_nil hs2) hs) (by decide) (by decide) hs hpl).aa7 fun σ H Q hh=> ?_
 obtain⟨O,τ,rs,hh⟩:=hh
 refine⟨O,τ,rs,Ans.step hh fun x v H1 e1 r1 z1=>⟨O,τ,rs.mono e1,Ans.step z1 fun y u H2 e2 r2 z2=> ?_⟩⟩
 cases x<;>try (cases y<;>exact z2.elim)
 cases y<;>try exact z2.elim
 cases Vd.int (ac0 r1)
 cases Vd.int (ac0 r2)
 exact⟨_,_,rfl,z2 _ H2 (Same.refl _) (ad1 (.int _))⟩
theorem cc5 {m ma mb:Bool}(hc:X.calm=true)(hgl:Gl X "min")(hm:X.mg "min"=none)(ha:PEx X C W ma a ra)(hb:PEx X C W mb b rb)
  (hs:starEach [a,b] X.env=(false,eval a X.env)::starEach [b] X.env) (hs2:starEach [b] X.env=(false,eval b X.env)::starEach [] X.env) (hpl:(backTo pos (starEach [b] X.env)).any (·.1)=false):
  PEx X C W m (.Call (.Name "min" p) [a,b] [] pos) (fun τ=>(ra τ).bind fun x=>(rb τ).bind fun y=>o2 .min2 x y):=by
 refine(pe_callB (call_min2 hc) hgl hm (by decide+kernel) (pa_cons ha (pa_cons hb pa_nil hs2) hs) (by decide) (by decide) hs hpl).aa7 fun σ H Q hh=> ?_
 obtain⟨O,τ,rs,hh⟩:=hh
 refine⟨O,τ,rs,Ans.step hh fun x v H1 e1 r1 z1=>⟨O,τ,rs.mono e1,Ans.step z1 fun y u H2 e2 r2 z2=> ?_⟩⟩
 cases x<;>try (cases y<;>exact z2.elim)
 cases y<;>try exact z2.elim
 cases Vd.int (ac0 r1)
 cases Vd.int (ac0 r2)
 exact⟨_,_,rfl,z2 _ H2 (Same.refl _) (ad1 (.int _))⟩
end
end Fz
namespace Fz
open PySem PySem.Spec L2
variable [aa0] [FnT]
def FnG (P:Program)(w:World)(K:Fr')(mg:Str→Option Value)(base:Heap)(C:Nat→Addr)(lv:Nat)(x:Str)(m:List D→R D):Prop:=
 ∃k f fd ps,k≤lv∧FnOk P w K mg base (L2.CX P w) k f fd ps (spM K C m)∧mg x=some (.ref f)∧PySem.W.keepIn K (.ref f)=true∧Binds K fd ps []∧(x==("__debug__":Str))=false
def aG0 (P:Program)(w:World)(K:Fr')(mg:Str→Option Value)(base:Heap)(C:Nat→Addr)(lv:Nat)(x:Str)(m:List D→R D):Prop:=
 ∃k f fd ps,k≤lv∧FnOk P w K mg base (L2.CX P w) k f fd ps (spF K C m)∧mg x=some (.ref f)∧PySem.W.keepIn K (.ref f)=true∧Binds K fd ps []∧(x==("__debug__":Str))=false
theorem aG0.up {P:Program}{w:World}{K:Fr'}{mg:Str→Option Value}{base:Heap}{C:Nat→Addr}{lv lv':Nat}{x:Str}{m:List D→R D}(h:aG0 P w K mg base C lv x m)(e:lv≤lv'):aG0 P w K mg base C lv' x m:=by
 obtain⟨k,f,fd,ps,hk,r⟩:=h
 exact⟨k,f,fd,ps,Nat.le_trans hk e,r⟩
theorem aG0.g {P:Program}{w:World}{K:Fr'}{mg:Str→Option Value}{base:Heap}{C:Nat→Addr}{lv:Nat}{x:Str}{m:List D→R D}(h:aG0 P w K mg base C lv x m):FnG P w K mg base C lv x m:=by
 obtain⟨k,f,fd,ps,hk,F,r⟩:=h
 exact⟨k,f,fd,ps,hk,F.imp fun _ _ _ _ z=>ca8 z,r⟩
theorem FnG.up {P:Program}{w:World}{K:Fr'}{mg:Str→Option Value}{base:Heap}{C:Nat→Addr}{lv lv':Nat}{x:Str}{m:List D→R D}(h:FnG P w K mg base C lv x m)(e:lv≤lv'):FnG P w K mg base C lv' x m:=by
 obtain⟨k,f,fd,ps,hk,r⟩:=h
 exact⟨k,f,fd,ps,Nat.le_trans hk e,r⟩
theorem a2M {K:Fr'}{H:Hp}{vs:List V}{ds:List D}(r:aa1 K H vs ds)(t:LamX.Tabs aa0.T H)(N:List Str):RS K [] H (start N vs) (ad8 N.length ds):=by
 have n:=r.length
 refine⟨t,?_,fun a h=>(by cases h),fun i d e=> ?_,fun i xs e=> ?_,fun i xs e=> ?_,fun i j a x y _ ox _ e _ _ _=> ?_,fun i g e=>(by
  exfalso
  unfold ad8 at e
  by_cases hi:i<ds.length
  ·rw[List.getElem?_append_left (by simpa using hi),List.getElem?_map]at e
   cases hd:ds[i]? with
   |none=>rw[hd]at e;cases e
   |some d'=>rw[hd]at e;cases e
  ·rw[List.getElem?_append_right (by simpa using hi)]at e
   rw[List.getElem?_replicate]at e
   split at e<;>cases e),fun i g e=>(by
  exfalso
  unfold ad8 at e
  by_cases hi:i<ds.length
  ·rw[List.getElem?_append_left (by simpa using hi),List.getElem?_map]at e
   cases hd:ds[i]? with
   |none=>rw[hd]at e;cases e
   |some d'=>rw[hd]at e;cases e
  ·rw[List.getElem?_append_right (by simpa using hi)]at e
   rw[List.getElem?_replicate]at e
   split at e<;>cases e),.none fun i g e=>(by
  exfalso
  unfold ad8 at e
  by_cases hi:i<ds.length
  ·rw[List.getElem?_append_left (by simpa using hi),List.getElem?_map]at e
   cases hd:ds[i]? with
   |none=>rw[hd]at e;cases e
   |some d'=>rw[hd]at e;cases e
  ·rw[List.getElem?_append_right (by simpa using hi)]at e
   rw[List.getElem?_replicate]at e
   split at e<;>cases e)⟩
 ·simp[L2.start,ad8,n]
 ·unfold ad8 at e
  by_cases hi:i<ds.length
  ·rw[List.getElem?_append_left (by simpa using hi),List.getElem?_map]at e
   cases hd:ds[i]? with
   |none=>rw[hd]at e;cases e
   |    some d'=>
        rw[hd]at e
        cases e
        obtain⟨v,h1,h2⟩:=aa1.get r hd
        refine⟨v,?_,by rw[an8];exact h2⟩
        unfold L2.start
        rw[List.getElem?_append_left (by rw[List.length_map];omega),List.getElem?_map,h1]
        rfl
  ·rw[List.getElem?_append_right (by simpa using hi)]at e
   rw[List.getElem?_replicate]at e
   split at e<;>cases e
 ·exfalso
  unfold ad8 at e
  by_cases hi:i<ds.length
  ·rw[List.getElem?_append_left (by simpa using hi),List.getElem?_map]at e
   cases hd:ds[i]? with
   |none=>rw[hd]at e;cases e
   |some d'=>rw[hd]at e;cases e
  ·rw[List.getElem?_append_right (by simpa using hi)]at e
   rw[List.getElem?_replicate]at e
   split at e<;>cases e
 ·exfalso
  unfold ad8 at e
  by_cases hi:i<ds.length
  ·rw[List.getElem?_append_left (by simpa using hi),List.getElem?_map]at e
   cases hd:ds[i]? with
   |none=>rw[hd]at e;cases e
   |some d'=>rw[hd]at e;cases e
  ·rw[List.getElem?_append_right (by simpa using hi)]at e
   rw[List.getElem?_replicate]at e
   split at e<;>cases e
 ·exfalso
  unfold ad8 at e
  by_cases hi:i<ds.length
  ·rw[List.getElem?_append_left (by simpa using hi),List.getElem?_map]at e
   cases hd:ds[i]? with
   |none=>rw[hd]at e;cases e
   |some d'=>rw[hd]at e;cases e;cases ox
  ·rw[List.getElem?_append_right (by simpa using hi)]at e
   rw[List.getElem?_replicate]at e
   split at e<;>cases e
end Fz
namespace Fz
open PySem PySem.Spec L2 PyProof.Rows
variable [aa0] [FnT]
section
variable {X:Cx} {C:Nat→Addr} {W:WX}
def rPl (K:Fr')(O:List Addr)(H:Hp)(v:V)(d:D):Prop:=PlB K (hide H O) v d
theorem cc6 {i:Nat}{x:Str}{pos:Pos}(hN:X.N[i]? =some x)(hv:Vis X.env.scope x)(hd:(x==("__debug__":Str))=false)(hcd:(x==("__classdict__":Str))=false):
  PE X (.Name x pos) (tR X.K C W (rPl X.K) (fun τ=>af5 τ i)):=
 (pe_var hN hv hd hcd).aa7 fun σ H Q ⟨O,τ,rs,a⟩=>by
  replace a:Ans C W O H σ (rPl X.K O) Q (af5 τ i):=a
  unfold af5 at a
  split at a
  ·rename_i d e
   obtain⟨v,h1,h2⟩:=rs.plv i d e
   exact⟨v,h1,a v H (Same.refl _) h2⟩
  ·exact a.elim
theorem cc7 {m:Bool}{i:Nat}{x:Str}{pos:Pos}(hN:X.N[i]? =some x)(hv:Vis X.env.scope x)(hd:(x==("__debug__":Str))=false)(hcd:(x==("__classdict__":Str))=false):
  PEx X C W m (.Name x pos) (fun τ=>af5 τ i):=
 (cc6 (C:=C) (W:=W) hN hv hd hcd).aa7 fun σ H Q ⟨O,τ,rs,a⟩=>⟨O,τ,rs,a.imp fun b d H1 _ z f=>f (ad1 (PlB.rp z))⟩
def spP (K:Fr')(C:Nat→Addr)(m:List D→R D):Sp:=fun vs H Q E=> ∃v0 vs0 d0 ds,vs=v0::vs0∧PlB K H v0 d0∧aa1 K H vs0 ds∧LamX.Tabs aa0.T H∧(match m (d0::ds)with
 | .ok d=> ∀v H',Same H H'→Rp K H' v d→Q v H'
 | .ex c=> ∀H',Same H H'→E (.ref (C c)) none H'
 | .no=>False)
def cd0 (X:Cx)(C:Nat→Addr)(x:Str)(m:List D→R D):Prop:= ∃k f fd ps,FnOk X.prog X.w X.K X.mg X.base (L2.CX X.prog X.w) k f fd ps (spP X.K C m)∧Room k X.A∧X.mg x=some (.ref f)∧PySem.W.keepIn X.K (.ref f)=true∧Binds X.K fd ps []∧(x==("__debug__":Str))=false
end
end Fz
namespace Fz
open PySem PySem.Spec L2
variable [aa0] [FnT]
def rsL:List (Sd→R D)→Sd→R (List D)
 | [],_=> .ok []
 |r::rs,τ=>(r τ).bind fun x=>(rsL rs τ).bind fun xs=> .ok (x::xs)
end Fz
namespace Fz
open PySem PySem.Spec PyProof.Rows L2
variable [aa0] [FnT]
section
variable {prog:Program} {w:World} {A:Around} {E:Value→Shared→Prop} {s:Shared}
theorem cd1 {sl:Addr}{tk:Tok}{n:Nat}{Q:Int×Int×Nat→Shared→Prop}(hs:s.heap.IsSliceOf sl .none .none (.int (-1) tk))
  (h:Q ((n:Int)-1,-1,n) s):wpAny (model prog w) A (Builtin.Slice.sliceApplied (.ref sl) (pure (n:Int))) Q E s:=by
 obtain⟨os,hos,hcs,hds⟩:=id hs
 unfold Builtin.Slice.sliceApplied Builtin.Slice.sliceFields
 refine wpAny_bind (wpAny_bind (wpAny_field hos hds (x:= .none) rfl (wpAny_bind (wpAny_field hos hds (x:= .none) rfl (wpAny_bind (wpAny_field hos hds (x:= .int (-1) tk) rfl (wpAny_pure ?_)))))))
 refine wpAny_bind (slicePart_int ?_)
 show wpAny _ _ (if((-1:Int)==0)=true then _ else _) _ _ s
 rw[if_neg (by decide)]
 refine wpAny_bind (slicePart_none (wpAny_bind (slicePart_none (wpAny_bind (wpAny_pure ?_)))))
 show wpAny _ _ (pure ((n:Int)-1,(-1:Int),Builtin.Slice.slicePlaces ((n:Int)-1) (-1) (-1))) _ _ s
 have:Builtin.Slice.slicePlaces ((n:Int)-1) (-1) (-1)=n:=by
  unfold Builtin.Slice.slicePlaces
  have h1: ¬((-1:Int)>0):=by omega
  simp only[h1,if_false]
  split
  ·simp <;>omega
  ·omega
 rw[this]
 exact wpAny_pure h
theorem cd2 (xs:Array Value):((List.range xs.size).filterMap fun(m:Nat)=>xs[((xs.size:Int)-1+(m:Int)*(-1)).toNat]?).toArray=xs.toList.reverse.toArray:=by
 congr 1
 have key: ∀k,k≤xs.size→((List.range k).filterMap fun(m:Nat)=>xs[((xs.size:Int)-1+(m:Int)*(-1)).toNat]?)=xs.toList.reverse.take k:=by
  intro k
  induction k with
  |zero=>intro _;rfl
  |succ k ih=>
   intro hk
   rw[List.range_succ,List.filterMap_append,ih (by omega)]
   have e:((xs.size:Int)-1+(k:Int)*(-1)).toNat=xs.size-1-k:=by omega
   have hl:xs.size-1-k<xs.size:=by omega
   rw[List.take_succ]
   congr 1
   simp only[List.filterMap_cons,List.filterMap_nil,e]
   rw[List.getElem?_reverse (by simp;omega)]
   simp[hl]
 rw[key xs.size (Nat.le_refl _)]
 exact List.take_of_length_le (by simp)
theorem cd4 {t sl:Addr}{items:Array Value}{tk:Tok}{Q:Value→Shared→Prop}(ht:IsTup s.heap t items)(hs:s.heap.IsSliceOf sl .none .none (.int (-1) tk))
  (h:Q (.ref s.heap.objs.size) { s with heap:=s.heap.push { cls:= .type "tuple",data:= .seq items.toList.reverse.toArray } })
  (hsz:items.size≤sizeLine):wpAny (model prog w) A (getItem (.ref t) (.ref sl)) Q E s:=by
 have htake:sizeOk (.seq items.toList.reverse.toArray):=by
  show items.toList.reverse.toArray.size≤sizeLine
  rw[List.size_toArray,List.length_reverse,Array.length_toList]
  omega
 obtain⟨os,hos,hcs,hds⟩:=id hs
 have hTs:s.TypeIs (.ref sl) "slice":=⟨os,hos,hcs⟩
 unfold getItem
 try with_reducible refine wpAny_holding ?_
 first|refine wpAny_bind (wpAny_pure ?_)|skip
 refine wpAny_bind (wpAny_sequenceKey ht.typeIs (by decide) ?_)
 refine wpAny_bind (wpAny_callSpecial?_slot (name:=Str.ofString "__getitem__") ht.typeIs PyProof.Rows.slot_tuple_getitem
  (wpAny_call_entry PyProof.Rows.slot_tuple_getitem ht.typeIs entry_tuple_getitem ?_ (args_tuple_getitem _ _)))
 show wpAny _ _ (Builtin.Tuple.tupleItemsOf (.ref t)>>=_) _ _ s
 refine wpAny_bind (tupleItemsOf_ ht ?_)
 refine wpAny_bind (wpAny_typeOf hTs ?_)
 rw[if_pos (by decide)]
 refine wpAny_bind (cd1 hs ?_)
 show wpAny _ _ (if(((items.size:Int)-1)==0&&(-1:Int)==1&&items.size==items.size)=true then _ else _) _ _ s
 rw[if_neg (by simp),cd2]
 first
  |exact wpAny_bind (m:=Builtin.Tuple.tupleExact _) (wpAny_newObj_type (wpAny_pure ⟨_,rfl,wpAny_pure h⟩) htake)
  |exact wpAny_bind (m:=Builtin.Tuple.tupleExact _) (wpAny_newObj_type (wpAny_bind (wpAny_pure (wpAny_pure ⟨_,rfl,wpAny_pure h⟩))) htake)
  |exact wpAny_bind (wpAny_bind (m:=Builtin.Tuple.tupleExact _) (wpAny_newObj_type (wpAny_pure (wpAny_pure ⟨_,rfl,wpAny_pure h⟩)) htake))
  |exact wpAny_bind (wpAny_bind (m:=Builtin.Tuple.tupleExact _) (wpAny_newObj_type (wpAny_pure ⟨_,rfl,wpAny_pure h⟩) htake))
end
theorem bN3 {vs:List V}{us:List Value}(h:Vals vs us):Vals vs.reverse us.reverse:=by
 induction h with
 |nil=>exact .nil
 |cons a b ih=>
  rw[List.reverse_cons,List.reverse_cons]
  exact ih.append (.cons a .nil)
section
variable {X:Cx} {e st:Expr} {te ts:TE} {pos p2:Pos}
def cd6 (K:Fr')(te ts:TE):TE:=fun σ H Q=>te σ H fun x H1=>ts σ H1 fun y H2=>y= .int (-1)∧ ∃a xs,x= .ref a∧((SqT K H2 a xs∧ay4 H2 Q xs.reverse)∨(SqL K H2 a xs∧ ∀p,H2 p=none→Q (.ref p) (upd H2 p (.lst xs.reverse))))
theorem cd7 (he:PE X e te)(hst:PE X st ts):PE X (.Subscript e (.Slice none none (some st) p2) pos) (cd6 X.K te ts):=by
 refine⟨fun pins s σ H Q I h=> ?_⟩
 refine Subscript_ (thn (he.run pins s σ H _ I h) fun v s1 ⟨x,H1,I1,r1,q1⟩=> ?_)
 refine wpAny_Slice ?_
 rw[evalPart_none]
 refine wpAny_pure (wpAny_pure ?_)
 rw[evalPart_some]
 refine thn (hst.run pins s1 σ H1 _ I1 q1) fun u s3 ⟨y,H3,I3,r3,q3⟩=> ?_
 obtain⟨rfl,a,xs,rfl,q3⟩:=q3
 obtain⟨tk,rfl⟩:=r3
 cases r1
 have I4:Inv X pins σ H3 { s3 with heap:=s3.heap.push { cls:= .type "slice",data:= .fields #[.none,.none,.int (-1) tk] } }:=I3.kept (t':=s3.toks) fun b ob q=>Heap.get?_push_of_some _ q
 rcases q3 with⟨hx,q⟩|⟨hx,q⟩
 case inr=>
  obtain⟨its,r,ht,hz⟩:=I4.list hx
  have hlen:=r.length
  refine tail_any (ops:=[.ref a,.ref s3.heap.objs.size]) ht.isList.typeIs slot_list_getitem.lookup ?_ (by with_unfolding_all rfl)
  refine wpAny_getItem_list_slice ht.isList (Heap.IsSliceOf.new ..) .none .none (.int (-1) tk) (by decide) ?_ (by rw[List.size_toArray]<;>omega)
  rw[PySem.W.krv_pick]
  refine⟨.ref _,_,I4.laid (t':=s3.toks) (o:= .lst xs.reverse) (fun b ob q=>Heap.get?_push_of_some _ q) (Nat.le_refl _) ?_,rfl,q _ (I4.hok.fresh (Nat.le_refl _))⟩
  exact⟨by rw[List.length_reverse];exact hz,_,0,bN3 r,Heap.get?_push_size _ rfl⟩
 obtain⟨its,r,ht,hz⟩:=I4.tuple hx
 have hlen:its.toArray.size=xs.length:=by rw[List.size_toArray];exact r.length.symm
 refine tail_any (ops:=[.ref a,.ref s3.heap.objs.size]) ht.typeIs PyProof.Rows.slot_tuple_getitem.lookup ?_ (by with_unfolding_all rfl)
 refine cd4 ht (Heap.IsSliceOf.new ..) ?_ (by rw[hlen];exact hz)
 exact ay8 I4 (bN3 r) (by rw[List.length_reverse];exact hz) q
end
section
variable {K:Fr'} {H:Hp}
theorem aa1.reverse: ∀ {vs:List V} {ds:List D},aa1 K H vs ds→aa1 K H vs.reverse ds.reverse
 |_,_,.nil=> .nil
 |_,_,.cons a b=>by
  rw[List.reverse_cons,List.reverse_cons]
  exact aa1.append (aa1.reverse b) (.cons a .nil)
end
section
variable {X:Cx} {C:Nat→Addr} {W:WX} {a b:Expr} {ra rb:Sd→R D} {p2 pos:Pos}
theorem cd8 {m ma mb:Bool}(ha:PEx X C W ma a ra)(hb:PEx X C W mb b rb):PEx X C W m (.Subscript a (.Slice none none (some b) p2) pos) (fun τ=>(ra τ).bind fun x=>(rb τ).bind fun y=>o2 .step x y):=by
 refine(cd7 ha hb).aa7 fun σ H Q hh=> ?_
 obtain⟨O,τ,rs,hh⟩:=hh
 refine⟨O,τ,rs,Ans.step hh fun x v H1 e1 r1 z1=>⟨O,τ,rs.mono e1,Ans.step z1 fun y u H2 e2 r2 z2=> ?_⟩⟩
 cases y<;>try (cases x<;>exact z2.elim)
 rename_i i
 cases Vd.int (ac0 r2)
 cases x<;>try exact z2.elim
 ·rename_i xs
  have z3:Ans C W O H2 σ (rM X.K m O) Q (if i= -1 then R.ok (.list xs.reverse)else .no):=z2
  by_cases hi:i= -1
  ·rw[if_pos hi]at z3
   subst hi
   obtain⟨q,vs,rfl,h1,h2,h3⟩:=Vd.list ((ac0 r1).mono e2.ex)
   refine⟨rfl,q,vs,rfl,.inr ⟨h1,fun p hp=> ?_⟩⟩
   exact z3 _ _ (ab2 hp) (ad1 (ao8 (rs.mono (e1.trans e2)).lst hp h2.reverse (by rw[List.length_reverse];exact h3)))
  ·rw[if_neg hi]at z3
   exact z3.elim
 ·rename_i xs
  have z3:Ans C W O H2 σ (rM X.K m O) Q (if i= -1 then R.ok (.tuple xs.reverse)else .no):=z2
  by_cases hi:i= -1
  ·rw[if_pos hi]at z3
   subst hi
   obtain⟨q,vs,rfl,h1,h2,h3⟩:=Vd.tuple (ac0 r1)
   refine⟨rfl,q,vs,rfl,.inl ⟨af0 e2 (af0 aa9 h1.t),fun p o hp ho=> ?_⟩⟩
   exact z3 _ _ (ab2 hp) (ad1 (av1 (rs.mono (e1.trans e2)).lst hp ho (h2.mono (Same.hide e2)).reverse (by rw[List.length_reverse];exact h3)))
  ·rw[if_neg hi]at z3
   exact z3.elim
end
end Fz
namespace Fz
open PySem PySem.Spec L2
variable [aa0] [FnT]
theorem a7l {K:Fr'}{H:Hp}(n:Int):aa1 K H (rgV 0 n) (ae2 0 n.toNat):=by
 unfold rgV ae2
 rw[show(n-0).toNat=n.toNat by simp]
 generalize List.range n.toNat=l
 induction l with
 |nil=>exact .nil
 |cons i r ih=>exact .cons (.int _) ih
theorem a2O (lo:Int)(n:Nat):(ae2 lo n).length=n:=by simp[ae2]
section
variable {X:Cx} {C:Nat→Addr} {W:WX} {a:Expr} {ra:Sd→R D} {p p2 pos pos2:Pos}
theorem ce1 {m ma:Bool}(hc:X.calm=true)(hgl:Gl X "list")(hm:X.mg "list"=none)(hg2:Gl X "range")(hm2:X.mg "range"=none)(ha:PEx X C W ma a ra)
  (hs:starEach [a] X.env=(false,eval a X.env)::starEach [] X.env):
  PEx X C W m (.Call (.Name "list" p) [.Call (.Name "range" p2) [a] [] pos2] [] pos) (fun τ=>(ra τ).bind (o1 .lrng)):=by
 refine(pe_listRg hc hgl hm (prg_1 hg2 hm2 ha hs) rfl).aa7 fun σ H Q hh=> ?_
 obtain⟨O,τ,rs,hh⟩:=hh
 refine⟨O,τ,rs,Ans.step hh fun x v H1 e1 r1 z1=> ?_⟩
 cases x<;>try exact z1.elim
 rename_i n
 cases Vd.int (ac0 r1)
 have z1:Ans C W O H1 σ (rM X.K m O) Q (if 0≤n∧n≤1000 then R.ok (.list (ae2 0 n.toNat))else .no):=z1
 split at z1
 ·rename_i hn
  exact⟨n,rfl,by unfold RgOk;omega,fun q hq=>z1 _ _ (ab2 hq) (ad1 (ao8 (rs.mono e1).lst hq (a7l n) (by rw[a2O,sizeLine_eq];omega)))⟩
 ·exact z1.elim
theorem ce2 {K:Fr'}{H:Hp}(i j:Int):aa1 K H (rgV i j) (ae2 i (j-i).toNat):=by
 unfold rgV ae2
 generalize List.range (j-i).toNat=l
 induction l with
 |nil=>exact .nil
 |cons k r ih=>exact .cons (.int _) ih
theorem ce4 {b:Expr}{rb:Sd→R D}{m ma mb:Bool}(hc:X.calm=true)(hgl:Gl X "list")(hm:X.mg "list"=none)(hg2:Gl X "range")(hm2:X.mg "range"=none)(ha:PEx X C W ma a ra)(hb:PEx X C W mb b rb)
  (na:starEach [a,b] X.env=(false,eval a X.env)::starEach [b] X.env) (nb:starEach [b] X.env=(false,eval b X.env)::starEach [] X.env) (hp:(backTo pos2 (starEach [b] X.env)).any (·.1)=false):
  PEx X C W m (.Call (.Name "list" p) [.Call (.Name "range" p2) [a,b] [] pos2] [] pos) (fun τ=>(ra τ).bind fun x=>(rb τ).bind (o2 .lrng2 x)):=by
 refine(pe_listRg hc hgl hm (prg_2 hg2 hm2 ha hb na nb hp) rfl).aa7 fun σ H Q hh=> ?_
 obtain⟨O,τ,rs,hh⟩:=hh
 refine⟨O,τ,rs,Ans.step hh fun x v H1 e1 r1 z1=>⟨O,τ,rs.mono e1,Ans.step z1 fun y u H2 e2 r2 z2=> ?_⟩⟩
 cases x<;>try (cases y<;>exact z2.elim)
 rename_i i
 cases y<;>try exact z2.elim
 rename_i j
 cases Vd.int (ac0 r1)
 cases Vd.int (ac0 r2)
 have z2:Ans C W O H2 σ (rM X.K m O) Q (if -1000≤i∧i≤1000∧ -1000≤j∧j≤1000 then R.ok (.list (ae2 i (j-i).toNat))else .no):=z2
 split at z2
 ·rename_i hn
  exact⟨i,j,rfl,rfl,by unfold RgOk;omega,fun q hq=>z2 _ _ (ab2 hq) (ad1 (ao8 ((rs.mono e1).mono e2).lst hq (ce2 i j) (by rw[a2O,sizeLine_eq];omega)))⟩
 ·exact z2.elim
theorem ce6 {m ma:Bool}(hc:X.calm=true)(hgl:Gl X "tuple")(hm:X.mg "tuple"=none)(hg2:Gl X "range")(hm2:X.mg "range"=none)(ha:PEx X C W ma a ra)
  (hs:starEach [a] X.env=(false,eval a X.env)::starEach [] X.env):
  PEx X C W m (.Call (.Name "tuple" p) [.Call (.Name "range" p2) [a] [] pos2] [] pos) (fun τ=>(ra τ).bind (o1 .trng)):=by
 refine(b7E hc hgl hm (prg_1 hg2 hm2 ha hs) rfl).aa7 fun σ H Q hh=> ?_
 obtain⟨O,τ,rs,hh⟩:=hh
 refine⟨O,τ,rs,Ans.step hh fun x v H1 e1 r1 z1=> ?_⟩
 cases x<;>try exact z1.elim
 rename_i n
 cases Vd.int (ac0 r1)
 have z1:Ans C W O H1 σ (rM X.K m O) Q (if 0≤n∧n≤1000 then R.ok (.tuple (ae2 0 n.toNat))else .no):=z1
 split at z1
 ·rename_i hn
  exact⟨n,rfl,by unfold RgOk;omega,fun q o hq ho=>z1 _ _ (ab2 hq) (ad1 (av1 (rs.mono e1).lst hq ho (a7l n) (by rw[a2O,sizeLine_eq];omega)))⟩
 ·exact z1.elim
theorem ce7:CallR X (.builtin "len") (b8U X.w X.K):=by
 intro pins s σ H xs us Q I r h
 obtain⟨O,a,o,ds',rfl,ha,hd,q⟩:=h
 rw[Vals.ref1 r]
 obtain⟨es,ep,t,vs,h1,h2,h3,h4,h5,h6,h7,h8⟩:=hd
 have ho:s.heap.get? a=some o:=(show ObjOk X.prog X.w H s.heap a (setAt a o)from I.hok a _ ha).1
 have hn:es.size=ds'.length:=by
  have:=h7.length
  have:=h8.length
  simp at *
  omega
 have hb:scanBound<2^63:=by decide
 have hsz:(es.size:Int)<2^63:=by omega
 exact call_len_set ho h1 h2 h3 hsz ⟨.int ds'.length,H,I.tok _,⟨_,by rw[hn]⟩,q⟩
theorem cf1 {m ma:Bool}(hc:X.calm=true)(hu:X.A.units+64<cLine)(hgl:Gl X "len")(hm:X.mg "len"=none)(hg2:Gl X "set")(hm2:X.mg "set"=none)(ha:PEx X C W ma a ra)
  (hs:starEach [a] X.env=(false,eval a X.env)::starEach [] X.env):
  PEx X C W m (.Call (.Name "len" p) [.Call (.Name "set" p2) [a] [] pos2] [] pos) (fun τ=>(ra τ).bind (o1 .lset)):=by
 refine(pe_callB ce7 hgl hm (by decide+kernel) (pa_cons (pe_callTy (bE4 hc hu) hg2 hm2 (by decide+kernel) (pa_cons ha pa_nil hs) (by decide) (by decide) hs rfl) pa_nil rfl) (by decide) (by decide) rfl rfl).aa7 fun σ H Q hh=> ?_
 obtain⟨O,τ,rs,hh⟩:=hh
 refine⟨O,τ,rs,Ans.step hh fun d v H1 e r z=> ?_⟩
 have rs1:=rs.mono e
 cases d<;>try exact z.elim
 rename_i ds
 have z':Ans C W O H1 σ (rM X.K m O) Q (if setOk ds=true then R.ok (PyData.int (firsts [] ds).length)else .no):=z
 split at z'
 ·rename_i hk
  refine⟨O,v,_,ds,rfl,rs1.lst,ac0 r,rfl,hk,fun a o ds' hn sd hl hsub hperm=> ?_⟩
  have e2:Same H1 (upd H1 a (setAt a o)):=ab2 hn
  refine⟨O,a,o,ds',rfl,upd_same,sd.mono (Same.hide e2),?_⟩
  rw[hl]
  exact z' _ _ e2 (ad1 (.int _))
 ·exact z'.elim
end
end Fz
namespace Fz
open PySem PySem.Spec L2 LamX
variable [aa0] [FnT]
def cvE:Expr→Option (Option Bool)
 | .Constant (.bool b) _ _=>some (some b)
 | .Constant .none _ _=>some none
 |_=>none
def cf5 (a e:Str):List Stmt→Option (Option (Option Bool)×Option Bool)
 | [.Try [.Return (some (.Call (.Name a1 _) [] [] _)) _] [.ExceptHandler (some (.Name e1 _)) none [.Return (some c) _] _] [] [] _]=>
  if a1==a&&e1==e then(cvE c).map fun v=>(none,v)else none
 | [.Try [.Expr (.Call (.Name a1 _) [] [] _) _] [.ExceptHandler (some (.Name e1 _)) none [.Return (some c) _] _] [] [] _,.Return (some d) _]=>
  if a1==a&&e1==e then(cvE c).bind fun v=>(cvE d).map fun u=>(some u,v)else none
 |_=>none
theorem aG2 {τ:Sd}{i:Nat}{z:Sv}(h:(ah5 τ)[i]? =some (some z)): ∃d,z= .val d∧τ[i]? =some (some (.val d)):=by
 unfold ah5 at h
 rw[List.getElem?_map]at h
 cases ht:τ[i]? with
 |none=>rw[ht]at h;cases h
 |some o=>
  rw[ht]at h
  cases o with
  |none=>cases h
  |some v=>
   cases v with
   |val d=>cases h;exact⟨d,rfl,rfl⟩
   |own xs=>cases h
   |dct xs=>cases h
   |fnc g=>cases h
   |plv g=>cases h
   |sto g=>cases h
theorem RS.ah5 {K:Fr'}{O:List Addr}{H:Hp}{σ:St}{τ:Sd}(r:RS K O H σ τ):RS K [] H σ (Fz.ah5 τ):=by
 refine⟨r.tab,by simp[Fz.ah5,r.len],fun a h=>(by cases h),fun i d e=> ?_,fun i xs e=> ?_,fun i xs e=> ?_,fun i j a x y _ ox _ e _ _ _=> ?_,fun i g e=>(by
  obtain⟨d',z,q⟩:=aG2 e
  cases z),fun i g e=>(by
  obtain⟨d',z,q⟩:=aG2 e
  cases z),.none fun i g e=>(by
  obtain⟨d',z,q⟩:=aG2 e
  cases z)⟩
 ·obtain⟨d',z,q⟩:=aG2 e
  cases z
  obtain⟨v,h1,h2⟩:=r.val i d q
  exact⟨v,h1,by rw[an8];exact h2.mono aa9⟩
 ·obtain⟨d',z,q⟩:=aG2 e
  cases z
 ·obtain⟨d',z,q⟩:=aG2 e
  cases z
 ·obtain⟨d',z,q⟩:=aG2 e
  subst z
  cases ox
structure cf7 (X:Cx)(C:Nat→Addr)(x:Str)(m:List D→R D):Prop where
 ex: ∃(t:TD) (a e:Str) (g c P:Addr) (pg:Arguments) (bg:List Stmt) (sg:Scope) (kws:List (Str×V)) (fd:FuncData) (Ng:List Str),
  m=mT t∧X.mg x=some (.ref g)∧FunD X.K x x pg bg sg [] kws g fd∧L2.Binds X.K fd [a] []∧FnScope Ng [a] sg∧Ng[0]? =some a∧Vis sg a∧cf5 a e bg=some (t.ret,t.val)∧
  sg.names.lookup e=some .globalImplicit∧X.mg e=some (.ref (C t.exc))∧PySem.W.exmOne X.K (.ref (C t.exc)) (.ref (C t.exc))=some true∧
  (x==("__debug__":Str))=false∧(a==("__debug__":Str))=false∧(a==("__classdict__":Str))=false∧(e==("__debug__":Str))=false∧
  TabB X.base X.mg c P∧X.env.code= .ref c∧(P,X.env.qual++"<lambda>")∈aa0.T∧ ∀p∈aa0.T,p.1=P→p.2=X.env.qual++"<lambda>"
def as9:Arguments→Bool
 |⟨[],[],none,[],[],none,[]⟩=>true
 |_=>false
def WE' (E:XK):WX:=fun cls d _ H=>E cls d H
end Fz
namespace Fz
open PySem PySem.Spec PyProof.Rows L2
abbrev at4 (n:Nat):List Addr:=[n+5,n+3,n+4,n,n+1,n+2]
def St3 (n:Nat)(a b c:Addr)(i:Nat)(h:Heap):Prop:=IsZip h (n+5) (n+3) (n+4) .none∧IsTupOf3 h (n+3) (.ref n) (.ref (n+1)) (.ref (n+2))∧(∃u v w,IsTupOf3 h (n+4) u v w)∧h.IsTupleIter n a i∧h.IsTupleIter (n+1) b i∧h.IsTupleIter (n+2) c i
theorem cg1 {n:Nat}{q:Addr}(h:q∈at4 n):q=n+5∨q=n+3∨q=n+4∨q=n∨q=n+1∨q=n+2:=by simpa[at4]using h
theorem St3.there {n i:Nat}{a b c:Addr}{h:Heap}(st:St3 n a b c i h): ∀q∈at4 n,∃o,h.get? q=some o∧ ∀v,o.data≠ .cell v:=fun q hq=>by
 obtain⟨s1,s2,⟨u,v,w,s3⟩,⟨o4,e4,_,d4⟩,⟨o5,e5,_,d5⟩,⟨o6,e6,_,d6⟩⟩:=st
 rcases cg1 hq with rfl|rfl|rfl|rfl|rfl|rfl
 ·exact⟨_,s1,nofun⟩
 ·exact⟨_,s2,nofun⟩
 ·exact⟨_,s3,nofun⟩
 ·exact⟨o4,e4,fun v z=>by rw[d4]at z;cases z⟩
 ·exact⟨o5,e5,fun v z=>by rw[d5]at z;cases z⟩
 ·exact⟨o6,e6,fun v z=>by rw[d6]at z;cases z⟩
theorem St3.keep {n i:Nat}{a b c:Addr}{h h':Heap}(st:St3 n a b c i h)(k: ∀q∈at4 n,∀o,h.get? q=some o→h'.get? q=some o):St3 n a b c i h':=by
 obtain⟨s1,s2,⟨u,v,w,s3⟩,s4,s5,s6⟩:=st
 exact⟨k _ (by simp[at4]) _ s1,k _ (by simp[at4]) _ s2,⟨u,v,w,k _ (by simp[at4]) _ s3⟩,s4.at (k _ (by simp[at4])),s5.at (k _ (by simp[at4])),s6.at (k _ (by simp[at4]))⟩
end Fz
namespace Fz
open PySem PySem.Spec L2
variable [aa0] [FnT]
section
variable {X:Cx} {C:Nat→Addr} {W:WX} {pos:Pos}
abbrev ap5:Obj:= { cls:= .type "dict",data:= .dict #[] }
theorem cg5 {K:Fr'}{O:List Addr}{H:Hp}{p:Addr}(hs:(p==sysModules)=false)(h:H p=some (setAt p ap5)):aj2 K (p::O) H p []:=
 ⟨List.mem_cons_self,ap5,[],[],h,hs,⟨#[],0,⟨rfl,rfl,rfl⟩,rfl,rfl,List.nodup_nil⟩,rfl,rfl,.nil,.nil,.nil,Nat.zero_le _⟩
theorem bN6 {pins:List (Addr×Obj)}{σ:St}{H:Hp}{s:Shared}(I:Inv X pins σ H s):
  Inv X pins σ (upd H s.heap.objs.size (setAt s.heap.objs.size ap5)) { s with heap:=s.heap.push ap5 }∧H s.heap.objs.size=none∧(s.heap.objs.size==sysModules)=false:=
 ⟨I.laid (a:=s.heap.objs.size) (t':=s.toks) (fun _ _ q=>Heap.get?_push_of_some _ q) (Nat.le_refl _) (aK0 (Heap.get?_push_size _ rfl)),I.hok.fresh (Nat.le_refl _),beq_eq_false_iff_ne.mpr (Nat.ne_of_gt I.big)⟩
theorem bN7:PFx X C W (.Dict [] [] pos) (fun _=> .ok (.dict [])):=⟨fun pins s σ H Q I h=>by
 obtain⟨O,τ,rs,a⟩:=h
 obtain⟨I1,hn,hs⟩:=bN6 I
 exact wpAny_Dict_empty ⟨.ref s.heap.objs.size,_,I1,rfl,a _ _ (ab2 hn) (.inr ⟨_,[],rfl,rfl,.of hn,cg5 hs upd_same⟩)⟩⟩
theorem bN8 (pw:PWr X){K:Fr'}{O:List Addr}{H:Hp}{h':Heap}{p:Addr}{xs:List (NestedKey×Addr×Value)}{kvs:List (D×D)}(hO:p∈O)(hs:(p==sysModules)=false)(hd:h'.DictOfH (nestedKind X.prog X.w) p xs)(he:ab7 K (hide H O) xs kvs)(hz:kvs.length≤sizeLine):
  ∃o,h'.get? p=some o∧aE7 o∧aj2 K O (upd H p (setAt p o)) p kvs:=by
 obtain⟨o,es,ep,h1,h2,h3,h4,h5,h6⟩:=hd
 obtain⟨vs,g1,g2,g3,g4,g5⟩:=bC3 he
 refine⟨o,h1,⟨es,ep,h3⟩,hO,o,xs,vs,upd_same,hs,⟨es,ep,h2,h3,?_,h6⟩,g1,g2,?_,g4,?_,hz⟩
 ·rw[pw.1,pw.2]at h4
  exact h4
 ·rw[ay3 hO]
  exact g3
 ·rw[ay3 hO]
  exact g5
theorem cg6 (hu:X.A.units+64<cLine):(nestedKind X.prog X.w).room X.A:=by
 show X.A.units+8<cLine
 omega
theorem bO0 {k v:Expr}{rk rv:Sd→R D}(pw:PWr X)(hu:X.A.units+64<cLine)(hk:PEx X C W true k rk)(hv:PEx X C W true v rv):
  PFx X C W (.Dict [some k] [v] pos) (fun τ=>(rk τ).bind fun x=>(rv τ).bind fun y=>if ab8 x=true then .ok (.dict [(x,y)])else .no):=⟨fun pins s σ H Q I h=>by
 obtain⟨O,τ,rs,a⟩:=h
 obtain⟨I1,hn,hs⟩:=bN6 I
 have e0:Same H (upd H s.heap.objs.size (setAt s.heap.objs.size ap5)):=ab2 hn
 have rs1:RS X.K (s.heap.objs.size::O) (upd H s.heap.objs.size (setAt s.heap.objs.size ap5)) σ τ:=rs.a6m e0 (.of hn) upd_same (.inr ⟨ap5,rfl,.inl ⟨#[],0,rfl⟩⟩)
 have off: ∀ {H1 H':Hp},Same (upd H s.heap.objs.size (setAt s.heap.objs.size ap5)) H1→Off (s.heap.objs.size::O) H1 H'→Off O H H':=fun {H1 H'} e o=>by
  have o:=o.after e
  refine⟨?_,fun t=>o.tab (e0.tab t)⟩
  have:=o.ex
  rw[bF2 hn]at this
  exact this
 have pp:=pps_cons (pos:=pos) hk hv pps_nil
 rw[arm_eval_Dict,show(evalEachOpt [some k] X.env).zip ((evalEach [v] X.env).map fun v=>do let x←v;standAt pos;pure x)=(pairTrees [some k] [v] X.env pos).map (fun p=>(some p.1,p.2))from rfl,dictDisplay_pairs _ (by simp[pairTrees]) (by simp[pairTrees])]
 refine wpAny_bind (wpAny_standAt (wpAny_bind (wpAny_subDictH (knd:=nestedKind X.prog X.w) (Q:=fun d s'=>wpAny (model X.prog X.w) X.A (pure (Value.ref d)) (EP X pins σ Q) X.xe s') (cg6 hu) (by simp[pairTrees]) ?_)))
 refine thn (pp.run pins _ σ _ (fun ps H'=> ∃x y dx dy,ps=[(x,y)]∧ab8 dx=true∧Same (upd H s.heap.objs.size (setAt s.heap.objs.size ap5)) H'∧Rp X.K (hide H' (s.heap.objs.size::O)) x dx∧Rp X.K (hide H' (s.heap.objs.size::O)) y dy∧Ans C W O H σ (rF X.K O H) Q (.ok (.dict [(dx,dy)]))) I1 ?_) fun vs s1 hq=> ?_
 ·refine⟨s.heap.objs.size::O,τ,rs1,?_⟩
  dsimp only at a
  cases hx:rk τ with
  |no=>rw[hx]at a;exact a.elim
  |ex c=>rw[hx]at a;exact fun H' e=>a H' (off (Same.refl _) e)
  |ok dx=>
   rw[hx]at a
   intro x H1 e1 r1
   refine⟨s.heap.objs.size::O,τ,rs1.mono e1,?_⟩
   cases hy:rv τ with
   |no=>rw[hy]at a;exact a.elim
   |ex c=>rw[hy]at a;exact fun H' e=>a H' (off e1 e)
   |    ok dy=>
        rw[hy]at a
        intro y H2 e2 r2
        have a':Ans C W O H σ (rF X.K O H) Q (if ab8 dx=true then .ok (.dict [(dx,dy)])else .no):=a
        by_cases hd:ab8 dx=true
        ·rw[if_pos hd]at a'
         exact⟨x,y,dx,dy,rfl,hd,e1.trans e2,r1.mono (Same.hide e2),r2,a'⟩
        ·rw[if_neg hd]at a'
         exact a'.elim
 ·obtain⟨ps,H',I2,vv,x,y,dx,dy,rfl,hd,e1,r1,r2,a'⟩:=hq
  cases vv with
  |cons v1 v2=>
   cases v2
   rename_i uu
   obtain⟨u1,u2⟩:=uu
   obtain⟨q1,q2⟩:=v1
   obtain⟨_,_,ys,ey⟩:=ap3 hd
   obtain⟨b,rfl⟩: ∃b,x= .ref b:=by
        subst ey
        cases r1 with
        |tup _ _ _=>exact⟨_,rfl⟩
   obtain rfl:u1=Value.ref b:=q1
   have hp:H' s.heap.objs.size=some (setAt s.heap.objs.size ap5):=e1.ex _ _ upd_same fun _ z=>by cases z
   have gp:=aj4 I2 hp
   refine⟨[(nk dx,b,u2)],⟨rfl,rfl,aK1 I2 (r1.mono aa9) rfl hd,trivial⟩,⟨ap5,#[],0,gp,⟨rfl,rfl,rfl⟩,rfl,rfl,(fun x h=>by cases h),List.nodup_nil⟩,fun h' tk hm hsb=> ?_⟩
   have hO:s.heap.objs.size∈s.heap.objs.size::O:=List.mem_cons_self
   obtain⟨o,ho,hi,hat⟩:=bN8 pw hO hs hm (.cons hd r1 q2 r2 .nil) (by show 1≤sizeLine;decide)
   exact wpAny_pure ⟨.ref s.heap.objs.size,_,d_write I2 (by rw[hp];exact True.intro) hsb ⟨o,ho⟩ (aK0 ho),rfl,a' _ _ (bz8 (e0.trans e1) (.of hn) hp (.inr ⟨_,rfl,.inl ⟨#[],0,rfl⟩⟩)) (.inr ⟨_,_,rfl,rfl,.of hn,hat⟩)⟩⟩
end
end Fz
namespace Fz
open PySem PySem.Spec L2
variable [aa0] [FnT]
section
variable {X:Cx} {C:Nat→Addr} {W:WX}
def FnV (X:Cx)(C:Nat→Addr)(f:Addr)(m:List D→R D):Prop:= ∃k fd ps,FnOk X.prog X.w X.K X.mg X.base (L2.CX X.prog X.w) k f fd ps (spM X.K C m)∧Room k X.A∧PySem.W.keepIn X.K (.ref f)=true∧Binds X.K fd ps []
inductive Defs (X:Cx)(C:Nat→Addr):List Expr→List Addr→List (List D→R D)→Prop
 |nil:Defs X C [] [] []
 |cons {x:Str} {p:Pos} {es:List Expr} {f:Addr} {fs:List Addr} {m:List D→R D} {ms:List (List D→R D)}:FnV X C f m→Gl X x→X.mg x=some (.ref f)→(x==("__debug__":Str))=false→Defs X C es fs ms→Defs X C (.Name x p::es) (f::fs) (m::ms)
theorem Defs.pa {es:List Expr}{fs:List Addr}{ms:List (List D→R D)}(h:Defs X C es fs ms):PA X es (fun σ H Q=>Q (fs.map V.ref) H):=by
 induction h with
 |nil=>exact pa_nil
 |cons _ hg hm hd _ ih=>exact pa_cons (pe_glob (v:= .ref _) hg hm rfl hd) ih rfl
theorem Defs.at {es:List Expr}{fs:List Addr}{ms:List (List D→R D)}(h:Defs X C es fs ms):fs.length=ms.length∧es.length=ms.length∧ ∀(j:Nat) (m:List D→R D),ms[j]? =some m→ ∃f,fs[j]? =some f∧FnV X C f m:=by
 induction h with
 |nil=>exact⟨rfl,rfl,fun j m e=>by simp at e⟩
 |cons F _ _ _ _ ih=>
  obtain⟨h1,h2,h3⟩:=ih
  refine⟨by simp[h1],by simp[h2],fun j m e=> ?_⟩
  cases j with
  |zero=>simp at e;subst e;exact⟨_,rfl,F⟩
  |succ j=>
   obtain⟨f,a,b⟩:=h3 j m (by simpa using e)
   exact⟨f,by simpa using a,b⟩
end
end Fz
namespace Fz
open PySem PySem.Spec L2
variable [aa0] [FnT]
inductive IsL (K:Fr')(D:Addr):List Addr→List Bool→Prop
 |nil:IsL K D [] []
 |cons {c:Addr} {b:Bool} {cs:List Addr} {bs:List Bool}:PySem.W.kitOne K (.ref D) (.ref c)=some b→IsL K D cs bs→IsL K D (c::cs) (b::bs)
structure Kit (K:Fr')(D base:Addr)(cs:List Addr)(bs:List Bool):Prop where
 exc:ExcC K D
 cat:PySem.W.exmOne K (.ref D) (.ref base)=some true
 is:IsL K D cs bs
section
variable {X:Cx} {a D:Addr} {oe:Obj} {pn:List (Addr×Obj)}
theorem IsL.split {K:Fr'}: ∀ {cs cs':List Addr} {bs:List Bool},IsL K D (cs++cs') bs→ ∃b1 b2,bs=b1++b2∧IsL K D cs b1∧IsL K D cs' b2
 | [],_,bs,h=>⟨[],bs,rfl,.nil,h⟩
 |_::_,_,_,.cons hk h=>by
  obtain⟨b1,b2,rfl,h1,h2⟩:=IsL.split h
  exact⟨_::b1,b2,rfl,.cons hk h1,h2⟩
theorem IsL.uniq {K:Fr'}: ∀ {cs:List Addr} {bs bs':List Bool},IsL K D cs bs→IsL K D cs bs'→bs=bs'
 |_,_,_,.nil,.nil=>rfl
 |_,_,_,.cons h1 h2,.cons h3 h4=>by
  rw[h1]at h3
  cases h3
  rw[IsL.uniq h2 h4]
theorem IsL.length {K:Fr'}: ∀ {cs:List Addr} {bs:List Bool},IsL K D cs bs→bs.length=cs.length
 |_,_,.nil=>rfl
 |_,_,.cons _ h=>by simp[IsL.length h]
def rCat (K:Fr'):R2:=fun x y H Q=> ∃p q vs ws,x= .ref p∧y= .ref q∧SqL K H p vs∧SqL K H q ws∧vs.length+ws.length≤sizeLine∧ ∀r,H r=none→Q (.ref r) (upd H r (.lst (vs++ws)))
theorem ch0 {X:Cx}:OpR X (binaryOp .Add) (rCat X.K):=by
 intro pins s σ H x y v u Q I rx ry h
 obtain⟨p,q,vs,ws,rfl,rfl,h1,h2,hz,k⟩:=h
 exact bA8 I rx ry h1 h2 hz k
theorem IsL.all {K:Fr'}{kn:List Addr}(h: ∀c∈kn,∃b,PySem.W.kitOne K (.ref D) (.ref c)=some b): ∀ {cs:List Addr},(∀c∈cs,c∈kn)→ ∃bs,IsL K D cs bs
 | [],_=>⟨[],.nil⟩
 |c::cs,hc=>by
  obtain⟨b,hb⟩:=h c (hc c List.mem_cons_self)
  obtain⟨bs,hbs⟩:=IsL.all h (cs:=cs) fun c' h'=>hc c' (List.mem_cons_of_mem _ h')
  exact⟨b::bs,.cons hb hbs⟩
end
end Fz
namespace Fz
open PySem PySem.Spec PyProof.Rows L2
section
variable {pr:Program} {wd:World} {A:Around} {E:Value→Shared→Prop} {s:Shared}
theorem ch2 {en it T:Addr}{fp:List Addr}{n i:Nat}{P:Nat→Value→Prop}{St:Nat→Heap→Prop}{old:Value}{f:Bool}{oT:Obj}{Q:Option Value→Shared→Prop}
  (D:Draws pr wd A.in1 it fp n P St) (he:IsEnumHeld s.heap en it i old T f) (hT:s.heap.get? T=some oT) (d1:T≠en) (d2:T≠it) (hst:St i s.heap) (hlt:i<n) (hne:en≠it) (hef:en∉fp)
  (hQ: ∀x h' tk,P i x→IsEnumHeld h' en it ((i:Int)+1) old T true→St (i+1) h'→h'.get? s.heap.objs.size=some { cls:= .type "tuple",data:= .seq #[.int i tk,x] }→
   (∀b o,b≠en→b≠it→s.heap.get? b=some o→h'.get? b=some o)→Q (some (.ref s.heap.objs.size)) { s with heap:=h',toks:=tk+1 }):
  wpAny (model pr wd) A (pyNext (.ref en)) Q E s:=by
 have hTy:s.TypeIs (.ref en) "enumerate":=⟨_,he,rfl⟩
 unfold pyNext
 refine wpAny_bind (wpAny_attempt (wpAny_callSpecial?_slot (name:=Str.ofString "__next__") hTy F.slot_enumerate_next (wpAny_call_entry F.slot_enumerate_next hTy F.entry_enumerate_next ?_ (F.args_enumerate_next_1 _))))
 obtain⟨hp,g,d,tk0,os⟩:=s
 show wpAny _ _ (field (.ref en) 2>>=_) _ _ _
 refine wpAny_bind (wpAny_field he rfl (x:= .ref it) rfl (wpAny_bind (D.item i _ _ _ hlt hst fun x ha tk px sa ka=> ?_)))
 replace ka:Heap.SameBut it hp ha:=ka
 have ea:IsEnumHeld ha en it i old T f:=(ka.2 en hne).trans he
 show wpAny _ _ (field (.ref en) 3>>=_) _ _ ⟨ha,g,d,tk,os⟩
 refine wpAny_bind (wpAny_field ea rfl (x:=rawInt i) rfl ?_)
 show wpAny _ _ (field (.ref en) 4>>=_) _ _ ⟨ha,g,d,tk,os⟩
 refine wpAny_bind (wpAny_field ea rfl (x:= .none) rfl ?_)
 show wpAny _ _ (mkInt i>>=_) _ _ ⟨ha,g,d,tk,os⟩
 refine wpAny_bind (wpAny_mkInt ?_)
 show wpAny _ _ (setField (.ref en) 3 (rawInt ((i:Int)+1))>>=_) _ _ ⟨ha,g,d,tk+1,os⟩
 refine wpAny_bind (wpAny_setField_rec ea (by simp) fun hb eb kb=> ?_)
 replace kb:Heap.SameBut en ha hb:=kb
 replace eb:IsEnumHeld hb en it ((i:Int)+1) old T f:=eb
 show wpAny _ _ (setField (.ref en) 4 .none>>=_) _ _ ⟨hb,g,d,tk+1,os⟩
 refine wpAny_bind (wpAny_setField_rec eb (by simp) fun hc ec kc=> ?_)
 replace kc:Heap.SameBut en hb hc:=kc
 replace ec:IsEnumHeld hc en it ((i:Int)+1) old T f:=ec
 show wpAny _ _ (newTuple [.int i tk,x]>>=_) _ _ ⟨hc,g,d,tk+1,os⟩
 refine wpAny_bind (wpAny_newTuple ?_)
 have z3:hc.objs.size=hp.objs.size:=by rw[kc.1,kb.1,ka.1]
 have lt0:en<hp.objs.size:=Heap.lt_size he
 have keep: ∀b o,b≠en→b≠it→hp.get? b=some o→(hc.push { cls:= .type "tuple",data:= .seq #[.int i tk,x] }).get? b=some o:=fun b o q1 q2 q=>
  Heap.get?_push_of_some _ (kc.extBut b o q1 (kb.extBut b o q1 (ka.extBut b o q2 q)))
 have en4:IsEnumHeld (hc.push { cls:= .type "tuple",data:= .seq #[.int i tk,x] }) en it ((i:Int)+1) old T f:=Heap.get?_push_of_some _ ec
 have st4:St (i+1) (hc.push { cls:= .type "tuple",data:= .seq #[.int i tk,x] }):=D.frame _ _ _ sa fun b hm o y=>by
  have q1:b≠en:=fun q=>hef (q▸hm)
  exact Heap.get?_push_of_some _ (kc.extBut b o q1 (kb.extBut b o q1 y))
 have new4:(hc.push { cls:= .type "tuple",data:= .seq #[.int i tk,x] }).get? hp.objs.size=some { cls:= .type "tuple",data:= .seq #[.int i tk,x] }:=by rw[←z3];exact Heap.get?_push_size _ rfl
 generalize hc.push { cls:= .type "tuple",data:= .seq #[.int i tk,x] }=hd at keep en4 st4 new4 ⊢
 show wpAny _ _ (Builtin.SmallTypes.ownedTupleIsFree (.ref en)>>=_) _ _ ⟨hd,g,d,tk+1,os⟩
 rw[z3]
 refine wpAny_bind (wpAny_tupleHeld_enum (s:=⟨hd,g,d,tk+1,os⟩) en4 (keep T oT d1 d2 hT) fun he5 e5 k5=> ?_)
 replace k5:Heap.SameBut en hd he5:=k5
 simp only[Bool.false_eq_true,if_false]
 refine wpAny_pure ⟨_,rfl,wpAny_pure (hQ x he5 tk px e5 (D.frame _ _ _ st4 fun b hm o y=>k5.extBut b o (fun q=>hef (q▸hm)) y) (k5.extBut _ _ (Nat.ne_of_gt lt0) new4) fun b o q1 q2 q=>k5.extBut b o q1 (keep b o q1 q2 q))⟩
theorem ch3 {en it:Addr}{fp:List Addr}{n:Nat}{P:Nat→Value→Prop}{St:Nat→Heap→Prop}{i:Int}{old:Value}{T:Addr}{f:Bool}{Q:Option Value→Shared→Prop}
  (D:Draws pr wd A.in1 it fp n P St) (he:IsEnumHeld s.heap en it i old T f) (hst:St n s.heap) (hQ: ∀h',Heap.ExtBut it s.heap h'→Q none { s with heap:=h' }):wpAny (model pr wd) A (pyNext (.ref en)) Q E s:=by
 have hTy:s.TypeIs (.ref en) "enumerate":=⟨_,he,rfl⟩
 unfold pyNext
 refine wpAny_bind (wpAny_attempt (wpAny_callSpecial?_slot (name:=Str.ofString "__next__") hTy F.slot_enumerate_next (wpAny_call_entry F.slot_enumerate_next hTy F.entry_enumerate_next ?_ (F.args_enumerate_next_1 _))))
 show wpAny _ _ (field (.ref en) 2>>=_) _ _ _
 refine wpAny_bind (wpAny_field he rfl (x:= .ref it) rfl (wpAny_bind (D.done _ _ _ hst fun h' x he' hx'=> ?_)))
 obtain⟨o,ho,hc⟩:=hx'
 exact wpAny_bind (wpAny_isInstance (T:="StopIteration") (b:=true) ⟨o,ho,hc⟩ isSubtype_stop (wpAny_pure (hQ _ he')))
end
theorem ch4 {pr:Program}{wd:World}(en it l:Addr)(hei:en≠it)(hle:l≠en)(hli:l≠it)(items:Array Value):
  PairArg pr wd "enumerate" en [en,it,l] [en,it] items.size (fun i k v=>(∃t,k= .int i t)∧items[i]? =some v)
   (fun h=>(∃old,IsEnum h en it 0 old)∧h.IsTupleIter it l 0∧h.IsTuple l items) where
 type:=fun s ok=>let⟨⟨_,he⟩,_⟩:=ok;⟨_,he,rfl⟩
 notDict:=by decide
 keep:=fun h h' ok hk=>let⟨⟨old,he⟩,hit,hl⟩:=ok;⟨⟨old,hk _ _ he⟩,hit.at fun o x=>hk _ o x,hl.at fun o x=>hk _ o x⟩
 there:=fun h ok b hb=>by
  obtain⟨⟨old,he⟩,⟨o1,h1,_⟩,⟨o2,h2,_⟩⟩:=ok
  have e':b=en∨b=it∨b=l:=by simpa using hb
  rcases e' with z|z|z<;>subst z
  ·exact⟨_,he⟩
  ·exact⟨_,h1⟩
  ·exact⟨_,h2⟩
 sub:=fun b hb=>by
  have e':b=en∨b=it:=by simpa using hb
  rcases e' with z|z<;>simp[z]
 noKeys:=fun A s Q E hA ok h=>let⟨⟨_,he⟩,_⟩:=ok;getAttrOr_miss_enumerate he rfl rfl rfl enumerate_no_keys (by decide+kernel) hA h
 iter:=  fun A s d Q E hA ok hd hdf h=>by
  obtain⟨⟨old,he⟩,hit,hl⟩:=ok
  have ne:d≠en∧d≠it∧d≠l:=by simpa using hdf
  obtain⟨de,dit,dl⟩:=ne
  have D:=Draws.tuple (prog:=pr) (w:=wd) (A:=A.in1) hA it l hli items
  refine wpAny_pyIter_enum he (h en [en,it] (fun i h=>(h.IsTupleIter it l i∧h.IsTuple l items)∧((∃old,IsEnum h en it i old)∨ ∃old T f oT,IsEnumHeld h en it i old T f∧h.get? T=some oT∧T≠en∧T≠it∧T≠d)) s.heap s.toks ?_
   ⟨⟨hit,hl⟩,.inl ⟨old,he⟩⟩ (fun _ _ e=>e) fun b hb=> .inl hb)
  refine⟨by simp[de,dit],fun i ha hb st hk=> ?_,fun i s1 Q1 E1 hi st hds hQ=> ?_,fun s1 Q1 E1 st hQ=> ?_⟩
  ·obtain⟨⟨hit,hl⟩,he⟩:=st
   refine⟨⟨hit.at fun o x=>hk _ o (Ne.symm dit) x,hl.at fun o x=>hk _ o (Ne.symm dl) x⟩,?_⟩
   rcases he with⟨old,he⟩|⟨old,T,f,oT,he,hT,r1,r2,r3⟩
   ·exact .inl ⟨old,hk _ _ (Ne.symm de) he⟩
   ·exact .inr ⟨old,T,f,oT,hk _ _ (Ne.symm de) he,hk _ _ r3 hT,r1,r2,r3⟩
  ·obtain⟨hst,he⟩:=st
   have ec:((i+1:Nat):Int)=(i:Int)+1:=by omega
   have nit:s1.heap.objs.size≠it:=by obtain⟨⟨_,x,_⟩,_⟩:=hst;exact Nat.ne_of_gt (Heap.lt_size x)
   have nl:en∉[it,l]:=by simp[hei,Ne.symm hle]
   rcases he with⟨old,he⟩|⟨old,T,f,oT,he,hT,r1,r2,r3⟩
   ·    refine wpAny_pyNext_enum_itemD D he hst hi hei nl fun x h' tk hx ho hst' hT hsz hk=> ?_
        exact hQ s1.heap.objs.size _ _ h' (tk+1) ⟨⟨_,rfl⟩,hx⟩ (.inl ⟨_,hT,rfl,_,rfl⟩)
         ⟨hst',.inr ⟨_,s1.heap.objs.size,false,_,(by rw[ec];exact ho),hT,Nat.ne_of_gt (Heap.lt_size he),nit,Nat.ne_of_gt hds⟩⟩
         fun b o hb x=>hk b o (fun y=>hb (by simp[y])) (fun y=>hb (by simp[y])) x
   ·    refine ch2 D he hT r1 r2 hst hi hei nl fun x h' tk hx ho hst' hT' hk=> ?_
        exact hQ s1.heap.objs.size _ _ h' (tk+1) ⟨⟨_,rfl⟩,hx⟩ (.inl ⟨_,hT',rfl,_,rfl⟩)
         ⟨hst',.inr ⟨old,T,true,oT,(by rw[ec];exact ho),hk _ _ r1 r2 hT,r1,r2,r3⟩⟩
         fun b o hb x=>hk b o (fun y=>hb (by simp[y])) (fun y=>hb (by simp[y])) x
  ·obtain⟨hst,he⟩:=st
   rcases he with⟨old,he⟩|⟨old,T,f,oT,he,hT,r1,r2,r3⟩
   ·exact wpAny_pyNext_enum_endD D he hst fun h' hk=>hQ h' s1.toks fun b o hb x=>hk b o (fun y=>hb (by simp[y])) x
   ·exact ch3 D he hst fun h' hk=>hQ h' s1.toks fun b o hb x=>hk b o (fun y=>hb (by simp[y])) x
theorem bO1 [aa0]{K:Fr'}{H:Hp}(f:Nat→Int): ∀l:List Nat,aa1 K H (l.map fun i=>V.int (f i)) (l.map fun i=>PyData.int (f i))
 | []=> .nil
 |i::r=> .cons (.int _) (bO1 f r)
theorem ch5 {its:List Value}: ∀ {i:Nat} {u:Value},its[i]? =some u→((List.range its.length).map fun(i:Nat)=>((.inl (i:Int):Key),its.getD i .none))[i]? =some ((.inl (i:Int):Key),u):=fun {i u} h=>by
 have hl:i<its.length:=(List.getElem?_eq_some_iff.mp h).1
 rw[List.getElem?_map,List.getElem?_range hl]
 simp[h]
theorem ch6 (its:List Value):((List.range its.length).map fun(i:Nat)=>((.inl (i:Int):Key),its.getD i .none)).map (·.2)=its:=by
 apply List.ext_getElem?
 intro i
 rw[List.map_map,List.getElem?_map]
 by_cases hl:i<its.length
 ·rw[List.getElem?_range hl];simp[hl]
 ·rw[List.getElem?_eq_none (by simpa using hl),List.getElem?_eq_none (by simpa using hl)];rfl
theorem ch8 (ds:List D):(aE6 ds).map (·.2)=ds:=by
 apply List.ext_getElem?
 intro i
 unfold aE6
 rw[List.map_map,List.getElem?_map]
 by_cases hl:i<ds.length
 ·rw[List.getElem?_range hl];simp[hl]
 ·rw[List.getElem?_eq_none (by simpa using hl),List.getElem?_eq_none (by simpa using hl)];rfl
variable [aa0] [FnT]
section
variable {X:Cx} {C:Nat→Addr} {W:WX} {a:Expr} {ra:Sd→R D} {p p2 pos pos2:Pos}
theorem ci0 {m ma:Bool}(pw:PWr X)(hc:X.calm=true)(hgl:Gl X "dict")(hm:X.mg "dict"=none)(hg2:Gl X "enumerate")(hm2:X.mg "enumerate"=none)(ha:PEx X C W ma a ra)
  (hs:starEach [a] X.env=(false,eval a X.env)::starEach [] X.env):
  PEx X C W m (.Call (.Name "dict" p) [.Call (.Name "enumerate" p2) [a] [] pos2] [] pos) (fun τ=>(ra τ).bind (o1 .denm)):=by
 refine⟨fun pins s σ H Q I h=> ?_⟩
 obtain⟨O,τ,rs,h⟩:=h
 refine Call_ (ld_blt I hgl hm boot_dict (PyProof.Rows.callWith_type1 ?_ rfl rfl))
 show wpAny _ _ (spliced ((false,eval (.Call (.Name "enumerate" p2) [a] [] pos2) X.env)::backTo pos (starEach [] X.env))) _ _ s
 refine Calls.spliced_cons ?_
 refine Call_ (ld_blt I hg2 hm2 boot_enumerate (PyProof.Rows.callWith_type1 (thn ((pa_cons ha pa_nil hs).run pos2 pins s σ H (fun vs H1=> ∃d v,vs=[v]∧Same H H1∧Vd X.K O H1 v d∧Ans C W O H1 σ (rM X.K m O) Q (o1 .denm d)) I ⟨O,τ,rs,Ans.step h fun d v H1 e r z=>⟨d,v,rfl,e,ac0 r,z⟩⟩) fun us s1 ⟨vs,H1,I1,r1,d,v,ev,e1,vd,q1⟩=> ?_) hs rfl))
 subst ev
 cases d<;>try exact q1.elim
 rename_i ds
 have q1:Ans C W O H1 σ (rM X.K m O) Q (if ds.isEmpty=false then R.ok (.dict (aE6 ds))else .no):=q1
 split at q1
 ·rename_i hne
  obtain⟨l,ws,rfl,sq,ra1,z1⟩:=vd.tuple
  rw[Vals.ref1 r1]
  obtain⟨its,rv,p',hz⟩:=I1.tuple (af0 aa9 sq.t)
  have hll:l<s1.heap.objs.size:=by obtain⟨_,z,_⟩:=p';exact Heap.lt_size z
  have nl:its.length=ds.length:=by
   have h1:=rv.length
   have h2:=ra1.length
   omega
  refine bG2 (begins_tuple l its.toArray) p' fun h' he hit hsz hk=>Calls.spliced_nil ?_
  have P:=ch4 (pr:=X.prog) (wd:=X.w) (s1.heap.objs.size+1) s1.heap.objs.size l (Nat.succ_ne_self _) (Nat.ne_of_lt (Nat.lt_succ_of_lt hll)) (Nat.ne_of_lt hll) its.toArray
  refine PySem.call_dict_pairs (knd:=mixKind X.prog X.w) (kvs:=(List.range its.length).map fun(i:Nat)=>((.inl (i:Int):Key),its.getD i .none)) P (I1.ok.hd hc) ⟨⟨.none,he⟩,⟨_,hit,rfl,rfl⟩,Heap.IsTuple.at p' fun o x=>hk _ o x⟩ ⟨by simp,fun i key u hr=> ?_⟩ (by simp only[List.size_toArray];omega) fun h2 tk hd hk2=> ?_
  ·obtain⟨⟨t,rfl⟩,hu⟩:=hr
   have hu:its[i]? =some u:=by simpa using hu
   exact⟨.inl (i:Int),ch5 hu,mixKind_int _ _ _ _⟩
  ·have nd:(((List.range its.length).map fun(i:Nat)=>((.inl (i:Int):Key),its.getD i .none)).map (·.1)).Nodup:=by
        rw[List.map_map]
        refine List.Pairwise.map _ ?_ List.nodup_range
        intro a b e z
        have z:(.inl (a:Int):Key)= .inl (b:Int):=z
        have z:(a:Int)=b:=Sum.inl.inj z
        exact e (by omega)
   rw[merged_nil_of_nodup _ nd]at hd
   obtain⟨o,ho,hdo⟩:=Heap.dictOf_iff.mp hd
   have big:s1.heap.objs.size≤h'.objs.size:=by omega
   have old: ∀b ob,s1.heap.get? b=some ob→h2.get? b=some ob:=fun b ob e=>hk2 b ob (fun z=>by
        have hb:b<s1.heap.objs.size:=Heap.lt_size e
        have e':b=s1.heap.objs.size+1∨b=s1.heap.objs.size:=by simpa using z
        rcases e' with e'|e'<;>rw[e']at hb
        ·exact absurd hb (by simp)
        ·exact absurd hb (by simp)) (hk b ob e)
   have I2:=I1.laid (a:=h'.objs.size) (t':=tk) old big (aK0 ho)
   have hn:H1 h'.objs.size=none:=I1.hok.fresh big
   have hO:h'.objs.size∉O:=fun z=>by
        obtain⟨u,q,_⟩:=(rs.mono e1).lst _ z
        rw[hn]at q;cases q
   refine⟨.ref h'.objs.size,_,I2,rfl,q1 _ _ (ab2 hn) (ad1 ?_)⟩
   refine .dcti (o:=o) (xs:=(List.range its.length).map fun(i:Nat)=>((.inl (i:Int):Key),its.getD i .none)) (vs:=ws) (by rw[ac1 hO];exact upd_same) (beq_eq_false_iff_ne.mpr (Nat.ne_of_gt (Nat.lt_of_lt_of_le I1.big big))) ?_ ?_ ?_ ?_ ?_ ?_ ?_
   ·    unfold ak8
        rw[←pw.1,←pw.2]
        exact hdo
   ·    unfold aE6
        rw[List.map_map,List.map_map,nl]
        rfl
   ·    intro z
        have:its.length=0:=by simpa using congrArg List.length z
        cases ds with
        |nil=>cases hne
        |cons x r=>simp only[List.length_cons]at nl;omega
   ·    unfold aE6
        rw[List.map_map,List.map_map,nl]
        exact bO1 (fun i=>(i:Int)) _
   ·rw[ch6];exact rv
   ·rw[ch8];exact ra1.mono (Same.hide (ab2 hn))
   ·simpa[aE6]using z1
 ·exact q1.elim
end
end Fz
namespace Fz
open PySem PySem.Spec PyProof.Rows L2
variable [aa0] [FnT]
theorem ci1 (x:D)(xs:List D)(al: ∀a∈x::xs,∀b∈x::xs,PySem.W.alike a b=true):a5X (x::xs)=some (PySem.W.minD x xs):=by
 show some _=some _
 unfold PySem.W.minD
 congr 1
 have go: ∀(ys:List D) (m:D),(∀a∈m::ys,∀b∈m::ys,PySem.W.alike a b=true)→
   ys.foldl (fun m y=>if ltD y m=true then y else m) m=ys.foldl (fun a y=>if PySem.W.dataLt y a then y else a) m:=by
  intro ys
  induction ys with
  |nil=>intro m _;rfl
  |cons y ys ih=>
   intro m h
   simp only[List.foldl_cons]
   rw[lt_data y m (h y (by simp) m (by simp))]
   apply ih
   intro a ha b hb
   have k: ∀c,c∈(if PySem.W.dataLt y m=true then y else m)::ys→c∈m::y::ys:=fun c hc=>by
        rcases List.mem_cons.mp hc with e|e
        ·rw[e];split<;>simp
        ·simp[e]
   exact h a (k a ha) b (k b hb)
 exact go xs x al
section
variable {X:Cx} {pins:List (Addr×Obj)} {σ:L2.St} {H:Hp} {s:Shared} {Q:VK} {O:List Addr}
theorem a7m {n:Nat}: ∀xs:List D,(∀x∈xs,x.depth≤n)→PyData.depthAll xs≤n
 | [],_=>Nat.zero_le _
 |x::r,h=>by
  simp only[PyData.depthAll]
  have h1:=h x (by simp)
  have h2:=a7m r fun y hy=>h y (by simp[hy])
  omega
theorem ci7 (hc:X.calm=true)(hu:X.A.units+64<cLine):ao0 X (.builtin "min") (o1 .mint):=by
 intro pins s σ H xs us Q I r h
 obtain⟨O,x,d1,d,rfl,L,v1,e,q⟩:=h
 cases d1<;>try (cases e)
 rename_i ds
 obtain⟨a,vs,rfl,s1,r1,z1⟩:=v1.list
 have e:(if sortable ds=true then ofO (a5X ds)else R.no)= .ok d:=e
 by_cases hs:sortable ds=true
 ·rw[if_pos hs]at e
  rw[Vals.ref1 r]
  obtain⟨its,rv,pl,_⟩:=I.list s1
  have al:=av4 hs
  cases ds with
  |nil=>cases e
  |cons y ys=>
   rw[ci1 y ys fun a ha b hb=>al a ha b hb]at e
   cases e
   obtain⟨er,eb⟩:=a2p I (fun d hd=>aK3 d (al d hd d hd)) r1 rv
   obtain⟨as,hr⟩:=PySem.W.each_readsAll (h:=s.heap) (fun d:D=>d) er
   rw[List.map_id']at hr
   have hr:ReadsAll s.heap its.toArray.toList (y::ys) as:=by simpa using hr
   have hn:its.length=ys.length+1:=by simpa using er.length
   have ha:PySem.W.AlikeAll (y::ys):=⟨fun a ha b hb=>al a ha b hb,fun b hb z=>by
        rcases a2n hs with(k|k)|k
        ·obtain⟨_,_,k⟩:=k b hb
         rw[z]at k;cases k
        ·exact(k b hb).1 z
        ·exact k.2 b hb z⟩
   have hd:PyData.depthAll (y::ys)≤40:=a7m _ fun b hb=>depth_le hs b hb
   refine call_min_walkH (PySem.W.iter_listW (A:=X.A.in1) (I.ok.hd hc) pl.isList fun s₂ e W st hfp hw hk=> ?_)
   refine⟨_,_,_,_,_,_,_,s.heap,_,rfl,W,st,hfp,by simp only[List.size_toArray];omega,hw,hk,PySem.W.cmpIn_lt (A:=X.A.in1) hr ha (by show X.A.units+1+_<_;omega),fun v s' hP m=> ?_⟩
   obtain⟨h',tk,rfl,hk'⟩:=PySem.W.moved_old e rfl m
   have e1:its.toArray.size-1=ys.length:=by simp only[List.size_toArray];omega
   have e2:=(PySem.W.argBest_fold PySem.W.dataLt PyData.none y ys ys.length (Nat.le_refl _)).2
   rw[List.take_length]at e2
   rw[e1]at hP
   have hP:its[argBest (fun i j=>PySem.W.dataLt ((y::ys).getD i .none) ((y::ys).getD j .none)) ys.length]? =some v:=by simpa using hP
   obtain⟨vv,w1,w2⟩: ∃vv,vs[argBest (fun i j=>PySem.W.dataLt ((y::ys).getD i .none) ((y::ys).getD j .none)) ys.length]? =some vv∧RelV vv v:=by
        have hl2:vs.length=its.length:=rv.length
        generalize argBest (fun i j=>PySem.W.dataLt ((y::ys).getD i .none) ((y::ys).getD j .none)) ys.length=n at hP ⊢
        have hl:n<its.length:=(List.getElem?_eq_some_iff.mp hP).1
        have hg:vs[n]? =some (vs[n]'(by omega)):=List.getElem?_eq_getElem _
        obtain⟨u,k1,k2⟩:=rv.get hg
        rw[hP]at k1
        cases k1
        exact⟨_,hg,k2⟩
   obtain⟨dd,g1,g2⟩:=r1.aJ6 w1
   have e3:dd=PySem.W.minD y ys:=by
        unfold PySem.W.minD
        rw[←e2,List.getD_eq_getElem?_getD,g1]
        rfl
   subst e3
   exact⟨vv,H,I.kept (t':=tk) hk',w2,q _ _ (Same.refl _) g2⟩
 ·rw[if_neg hs]at e
  cases e
end
end Fz
namespace Fz
open PySem PySem.Spec PyProof.Rows L2
section
variable {prog:Program} {w:World} {A:Around} {E:Value→Shared→Prop} {s:Shared}
theorem ci8 {a b:Value}{Q:Value→Shared→Prop}
  (h:wpAny (model prog w) A.in1 (pyIter (.ref s.heap.objs.size)) (fun it s₂=> ∃I fp wr G n P St H bt,it= .ref I∧WalksS prog w A.in1 I fp wr G n P St∧St 0 s₂∧(∀b∈fp,b<s₂.heap.objs.size)∧0<n∧
   (∀b o,H.get? b=some o→b∉wr)∧(∀b o,H.get? b=some o→s₂.heap.get? b=some o)∧PySem.CmpIn prog w A.in1 .Lt H P bt∧ ∀v s',P (argBest bt (n-1)) v→PySem.Moved wr G s₂ s'→Q v s') E
   { s with heap:=s.heap.push { cls:= .type "tuple",data:= .seq #[a,b] } }):
  wpAny (model prog w) A (call (.builtin "min") [a,b]) Q E s:=by
 have hname:(toString "min"++toString ".loop":String)="min.loop":=by decide
 refine call_function_tree F.kind_min F.plain_min F.entry_min (F.args_min2 _ _) ?_
 show wpAny _ A.in1 (Builtin.Builtins.bindParams "min" ["key","default"] 0 ⟨[],[]⟩>>=_) _ _ s
 refine wpAny_bind (wpAny_of_eq (show Builtin.Builtins.bindParams "min" ["key","default"] 0 ⟨[],[]⟩=pure [none,none]from rfl) ?_)
 show wpAny _ A.in1 (newTuple [a,b]>>=_) _ _ s
 refine wpAny_bind (wpAny_newObj_type ?_)
 refine wpAny_bind (wpAny_mono h (fun it s₂ h₂=> ?_) fun _ _ e=>e)
 obtain⟨I,fp,wr,G,n,P,St,H,bt,rfl,W,hst,hfp,hn,hw,hkeep,hcmp,hQ⟩:=h₂
 refine wpAny_bind (wpAny_newObj_type ?_)
 have hSf:s₂.heap.objs.size∉fp:=fun hm=>Nat.lt_irrefl _ (hfp _ hm)
 rw[hname]
 refine wpAny_pure ⟨plainId_quiet F.plain_min_loop _,PySem.codeAny_min_loop_firstH W H hw bt hcmp s₂.heap.objs.size hSf (PySem.fresh_in hkeep) _ hn (fun b o e=>Heap.get?_push_of_some _ (hkeep b o e)) (W.frame 0 s₂ _ s₂.toks hst (Nat.le_refl _) fun b _ o e=>Heap.get?_push_of_some _ e) (Heap.get?_push_size _ rfl) fun v s' hP hm=> ?_⟩
 exact hQ v s' hP (PySem.Moved.drop_new (tk:=s₂.toks) hm (Nat.le_refl _))
end
variable [aa0] [FnT]
section
variable {X:Cx} {C:Nat→Addr} {W:WX} {a b:Expr} {ra rb:Sd→R D} {p pos:Pos}
theorem ci9 (hc:X.calm=true)(hu:X.A.units+64<cLine):CallR X (.builtin "min") (fun xs H Q=> ∃x y d1 d2 O,xs=[x,y]∧Rp X.K (hide H O) x d1∧Rp X.K (hide H O) y d2∧sortable [d1,d2]=true∧Q (if ltD d2 d1=true then y else x) H):=by
 intro pins s σ H xs us Q I r h
 obtain⟨x,y,d1,d2,O,rfl,v1,v2,hs,q⟩:=h
 obtain⟨u,w',rfl,r1,r2⟩:=vals2 r
 have al:=av4 hs
 have n1:noD d1=true:=aK3 d1 (al d1 (by simp) d1 (by simp))
 have n2:noD d2=true:=aK3 d2 (al d2 (by simp) d2 (by simp))
 obtain⟨as,rd1⟩:=Dp.reads I d1 x u ((v1.mono aa9).dp n1) r1
 obtain⟨bs,rd2⟩:=Dp.reads I d2 y w' ((v2.mono aa9).dp n2) r2
 have ha:PySem.W.AlikeAll [d1,d2]:=⟨fun a ha b hb=>al a ha b hb,fun b hb z=>by
  rcases a2n hs with(k|k)|k
  ·obtain⟨_,_,k⟩:=k b hb
   rw[z]at k;cases k
  ·exact(k b hb).1 z
  ·exact k.2 b hb z⟩
 have hd:PyData.depthAll [d1,d2]≤40:=a7m _ fun b hb=>depth_le hs b hb
 have hT:(s.heap.push { cls:= .type "tuple",data:= .seq #[u,w'] }).IsTuple s.heap.objs.size #[u,w']:=⟨_,Heap.get?_push_size _ rfl,rfl,0,rfl⟩
 have hkp: ∀b o,s.heap.get? b=some o→(s.heap.push { cls:= .type "tuple",data:= .seq #[u,w'] }).get? b=some o:=fun b o e=>Heap.get?_push_of_some _ e
 have hr:ReadsAll (s.heap.push { cls:= .type "tuple",data:= .seq #[u,w'] }) (#[u,w']:Array Value).toList [d1,d2] (as++(bs++[])):= .cons (PySem.W.reads_keeps hkp rd1) (.cons (PySem.W.reads_keeps hkp rd2) .nil)
 refine ci8 (PySem.W.iter_tupleW (A:=X.A.in1) (s:= { s with heap:=s.heap.push { cls:= .type "tuple",data:= .seq #[u,w'] } }) (I.ok.hd hc) hT fun s₂ e W st hfp hw hk=> ?_)
 refine⟨_,_,_,_,_,_,_,s.heap.push { cls:= .type "tuple",data:= .seq #[u,w'] },_,rfl,W,st,hfp,by simp,hw,hk,PySem.W.cmpIn_lt (A:=X.A.in1) (s:= { s with heap:=s.heap.push { cls:= .type "tuple",data:= .seq #[u,w'] } }) hr ha (by show X.A.units+1+_<_;omega),fun v s' hP m=> ?_⟩
 obtain⟨h',tk,rfl,hk'⟩:=PySem.W.moved_old e rfl m
 have I':Inv X pins σ H { s with heap:=h',toks:=tk }:=I.kept (t':=tk) fun b o q=>hk' b o (hkp b o q)
 have e1:ltD d2 d1=PySem.W.dataLt d2 d1:=lt_data d2 d1 (al d2 (by simp) d1 (by simp))
 rw[e1]at q
 have hP:(#[u,w']:Array Value)[argBest (fun i j=>PySem.W.dataLt ([d1,d2].getD i .none) ([d1,d2].getD j .none)) 1]? =some v:=hP
 have hb:argBest (fun i j=>PySem.W.dataLt ([d1,d2].getD i .none) ([d1,d2].getD j .none)) 1=if PySem.W.dataLt d2 d1=true then 1 else 0:=by
  simp only[argBest]
  rfl
 rw[hb]at hP
 by_cases hl:PySem.W.dataLt d2 d1=true
 ·rw[if_pos hl]at hP q
  have:v=w':=(Option.some.inj hP).symm
  subst this
  exact⟨y,H,I',r2,q⟩
 ·rw[if_neg hl]at hP q
  have:v=u:=(Option.some.inj hP).symm
  subst this
  exact⟨x,H,I',r1,q⟩
theorem cj0 {m:Bool}(hc:X.calm=true)(hu:X.A.units+64<cLine)(hgl:Gl X "min")(hm:X.mg "min"=none)(ha:PEx X C W true a ra)(hb:PEx X C W true b rb)
  (hs:starEach [a,b] X.env=(false,eval a X.env)::starEach [b] X.env) (hs2:starEach [b] X.env=(false,eval b X.env)::starEach [] X.env) (hpl:(backTo pos (starEach [b] X.env)).any (·.1)=false):
  PEx X C W m (.Call (.Name "min" p) [a,b] [] pos) (fun τ=>(ra τ).bind fun x=>(rb τ).bind fun y=>o2 .mint2 x y):=by
 refine(pe_callB (ci9 hc hu) hgl hm (by decide+kernel) (pa_cons ha (pa_cons hb pa_nil hs2) hs) (by decide) (by decide) hs hpl).aa7 fun σ H Q hh=> ?_
 obtain⟨O,τ,rs,hh⟩:=hh
 refine⟨O,τ,rs,Ans.step hh fun x v H1 e1 r1 z1=>⟨O,τ,rs.mono e1,Ans.step z1 fun y u H2 e2 r2 z2=> ?_⟩⟩
 have r1:Rp X.K (hide H1 O) v x:=r1
 have r2:Rp X.K (hide H2 O) u y:=r2
 have z2:Ans C W O H2 σ (rM X.K m O) Q (if sortable [x,y]=true then R.ok (if ltD y x=true then y else x)else R.no):=by cases x<;>cases y<;>exact z2
 by_cases hs:sortable [x,y]=true
 ·rw[if_pos hs]at z2
  have r1':Rp X.K (hide H2 O) v x:=r1.mono (Same.hide e2)
  refine⟨v,u,x,y,O,rfl,r1',r2,hs,z2 _ H2 (Same.refl _) (ad1 ?_)⟩
  split
  ·exact r2
  ·exact r1'
 ·rw[if_neg hs]at z2
  exact z2.elim
end
end Fz
namespace Fz
open PySem PySem.Spec PyProof.Rows L2
variable [aa0] [FnT]
def ItP (d:Addr)(o:Obj)(ks vs:List V):It:=
 ⟨fun i H=>H d=some (setAt d o)∧i<ks.length,fun i H x H'=> ∃(T:Addr) (k v:V) (o:Obj),x= .ref T∧H T=none∧H'=upd H T (.frz o (.tup [k,v]))∧o.dict=none∧ks[i]? =some k∧vs[i]? =some v,fun i H=>H d=some (setAt d o)∧ks.length≤i⟩
theorem bO2 {vs:List V}{us:List Value}{i:Nat}{u:Value}(h:Vals vs us)(hu:us[i]? =some u): ∃v,vs[i]? =some v∧RelV v u:=by
 have hl:=h.length
 have hi:i<us.length:=(List.getElem?_eq_some_iff.mp hu).1
 have hj:i<vs.length:=by omega
 obtain⟨w,h1,h2⟩:=h.get (List.getElem?_eq_getElem hj)
 rw[hu]at h1
 cases h1
 exact⟨vs[i],List.getElem?_eq_getElem hj,h2⟩
theorem cj3 {P:Program}{w:World}{K:Fr'}{elts:List Expr}{kk:Nat}{tpos:Pos}{d:Addr}{o:Obj}{es:Array DictEntry}{ep:Nat}{ks vs:List V}(it:Addr)(hx:o.ExactDict)(hod:o.data= .dict es ep)
  (hk:Vals ks (es.toList.map (·.key))) (hv:Vals vs (es.toList.map (·.val))):
  Turn P w K (.Tuple elts kk tpos) (ItP d o ks vs) [it] it (fun i h=> ∃ok ov,IsItemIter h it d i es.size ep ok ov) where
 mem:=by simp
 obj:=fun i h st b hb=>by
  have e:b=it:=by simpa using hb
  subst e
  obtain⟨ok,ov,e⟩:=st
  exact⟨_,e,fun v z=>nomatch z⟩
 keep:=fun i h h' st k=>let⟨ok,ov,e⟩:=st;⟨ok,ov,k it (by simp) _ e⟩
 item:=by
  intro X hP hw hK hc i pins s σ H E I hf st hg
  subst hP hw hK
  obtain⟨hd,hi⟩:=hg
  have hl:es.size=ks.length:=by
   have:=hk.length
   simp only[List.length_map,Array.length_toList]at this
   omega
  have hi':i<es.size:=by omega
  have hel:es.toList[i]? =some es[i]:=by rw[Array.getElem?_toList,Array.getElem?_eq_getElem hi']
  obtain⟨k,hk1,hk2⟩:=bO2 hk (u:=es[i].key) (i:=i) (by rw[List.getElem?_map,hel];rfl)
  obtain⟨v,hv1,hv2⟩:=bO2 hv (u:=es[i].val) (i:=i) (by rw[List.getElem?_map,hel];rfl)
  obtain⟨ok,ov,he⟩:=st
  have hlt:it<s.heap.objs.size:=Heap.lt_size he
  refine wpAny_pyNext_items_item_raw he ⟨o,aj4 I hd,hx,hod⟩ hi' fun h' ho hT hz hkp=> ?_
  refine⟨_,rfl,wpAny_letOwnedTupleGo_items (s:= { s with heap:=h' }) ho fun h'' he' sb=> ?_⟩
  have hT2:h''.get? s.heap.objs.size=some { cls:= .type "tuple",data:= .seq #[es[i].key,es[i].val] }:=(sb.2 _ (Nat.ne_of_gt hlt)).trans hT
  let o2:Obj:= { cls:= .type "tuple",data:= .seq #[es[i].key,es[i].val] }
  have new:ObjOk X.prog X.w (upd H s.heap.objs.size (.frz o2 (.tup [k,v]))) h'' s.heap.objs.size (.frz o2 (.tup [k,v])):=
   ⟨hT2,by show 2≤sizeLine;decide,[es[i].key,es[i].val],.cons hk2 (.cons hv2 .nil),⟨_,hT2,rfl,_,rfl⟩⟩
  have I1:Inv X pins σ (upd H s.heap.objs.size (.frz o2 (.tup [k,v]))) { s with heap:=h'' }:=
   I.turnedNew (t':=s.toks) (ch:=[it]) (fun b ob hb e=>(sb.2 b (by simpa using hb)).trans (hkp b ob (by simpa using hb) e)) hf (Nat.le_refl _) new
  refine⟨.ref s.heap.objs.size,_,I1,rfl,⟨_,k,v,o2,rfl,I.hok.fresh (Nat.le_refl _),rfl,rfl,hk1,hv1⟩,⟨es[i].key,es[i].val,he'⟩,fun b hb=> ?_⟩
  have e:b=it:=by simpa using hb
  rw[e,upd_ne (Nat.ne_of_lt hlt)]
  exact(hf it (by simp)).1
 done:=by
  intro X hP hw hK hc i pins s σ H E I hf st hg
  subst hP hw hK
  obtain⟨hd,hi⟩:=hg
  obtain⟨f0,f1,f2,f3,f4,f5⟩:=hf it (by simp)
  have hl:es.size=ks.length:=by
   have:=hk.length
   simp only[List.length_map,Array.length_toList]at this
   omega
  obtain⟨ok,ov,he⟩:=st
  exact wpAny_pyNext_items_end_raw (I.ok.hd hc) he ⟨o,aj4 I hd,hx,hod⟩ (by omega) fun h' eb=>⟨rfl,I.turned (t':=s.toks) (fun b ob hb e=>eb b ob hb e) f0 f1 f3 f4 f5⟩
 self:=fun A i s Q E st h=>let⟨_,_,e⟩:=st;PySem.W.kcp_self e h
section
variable {X:Cx} {C:Nat→Addr} {W:WX} {e:Expr} {apos cpos:Pos}
def cj4 (td:TE):TI:=fun σ H R=>td σ H fun x H1=> ∃d o es ep ks vs,x= .ref d∧H1 d=some (setAt d o)∧(d==sysModules)=false∧o.ExactDict∧o.data= .dict es ep∧Vals ks (es.toList.map (·.key))∧Vals vs (es.toList.map (·.val))∧R (ItP d o ks vs) H1
theorem cj5 {td:TE}{elts:List Expr}{kk:Nat}{tpos:Pos}(he:PE X e td)(hbase:attributeBase e "items" X.env (eval e X.env)=eval e X.env)(hline:(apos.endLine==cpos.line)=true):
  PI X (.Tuple elts kk tpos) (.Call (.Attribute e "items" apos) [] [] cpos) (cj4 td):=by
 refine⟨fun pins s σ H R I h=> ?_⟩
 refine wpAny_Call_method (T:="dict") (id:="dict.items") hbase rfl hline F.plainAttrs_dict F.slot_dict_items F.type_dict_items (thn (he.run pins s σ H _ I h) fun u s1 ⟨x,H1,I1,rx,d,o,es,ep,ks,vs,ex,hd,hs,hx,hdt,hk,hv,q⟩=> ?_)
 subst ex
 obtain rfl:u=Value.ref d:=rx
 have hm:s1.heap.DictRaw d es ep:=⟨o,aj4 I1 hd,hx,hdt⟩
 refine⟨hm.typeIs,fun a ea=>by cases ea;exact⟨o,aj4 I1 hd,hx.2.1⟩,?_⟩
 have I2:Inv X pins σ H1 { s1 with heap:=s1.heap.push { cls:= .type "dict_items",data:= .fields #[.ref d] } }:=I1.kept (t':=s1.toks) fun b ob q=>Heap.get?_push_of_some _ q
 have fin:wpAny (model X.prog X.w) X.A (pyIter (.ref s1.heap.objs.size)) (PIE X pins σ (.Tuple elts kk tpos) R) X.xe { s1 with heap:=s1.heap.push { cls:= .type "dict_items",data:= .fields #[.ref d] } }:=
  wpAny_pyIter_items_raw (d:=d) (es:=es) (ep:=ep) ⟨_,Heap.get?_push_size _ rfl,rfl,rfl⟩ ⟨o,aj4 I2 hd,hx,hdt⟩ (pi_one (tk:=s1.toks) I2 _ (cj3 _ hx hdt hk hv) ⟨.none,.none,Heap.get?_push_size _ rfl⟩ q)
 show wpAny _ _ (callWith cpos (.builtin "dict.items") [.ref d] [] []) _ X.xe s1
 exact method_meetsIn F.slot_dict_items F.entry_dict_items rfl (PySem.evalArgs_none ⟨rfl,hm.typeIs,F.args_dict_items_1 _,_,meets_dict_items_raw d hs,⟨es,ep,hm⟩,fin⟩)
theorem cj6 {d:Addr}{o:Obj}{ks vs:List V}:Walk (ItP d o ks vs) ks.length (fun H=>H d=some (setAt d o)) (aT0 (fun i=>ks[i]?) (fun i=>vs[i]?)):=
 ⟨fun _ _ hi q=>⟨q,hi⟩,fun _ q=>⟨q,Nat.le_refl _⟩,fun i H x H' _ _ y=>y⟩
theorem bO4: ∀kvs:List (D×D),ah2 (kvs.map (·.1)) (kvs.map (·.2))=kvs.map fun p=> .tuple [p.1,p.2]
 | []=>rfl
 |p::r=>by simp only[List.map_cons,ah2,bO4 r]
theorem cj8 (f:NestedKey×Addr×Value→DictEntry)(hf: ∀x,(f x).val=x.2.2): ∀ {xs:List (NestedKey×Addr×Value)} {vs:List V},Vals vs (xs.map (·.2.2))→Vals vs ((xs.map f).map (·.val))
 |xs,vs,h=>by
  have:(xs.map f).map (·.val)=xs.map (·.2.2):=by rw[List.map_map];exact List.map_congr_left fun x _=>hf x
  rw[this];exact h
theorem Vd.ck0 {K:Fr'}{O:List Addr}{H:Hp}{v:V}{kvs:List (D×D)}{m:Bool}(hI:isI kvs=false)(h:rM K m O H v (.dict kvs)):
  ∃a o es ep ks vs,v= .ref a∧ar5 K O H a o es ep ks kvs∧Vals vs (es.toList.map (·.val))∧aa1 K (hide H O) vs (kvs.map (·.2))∧ ∀H',Still m O H H'→H' a=some (setAt a o):=by
 have fin: ∀ {a:Addr} {o:Obj} {xs:List (NestedKey×Addr×Value)} {vs:List V},al0 K O H a o xs vs kvs→ ∃es ep ks,ar5 K O H a o es ep ks kvs∧Vals vs (es.toList.map (·.val)):=fun {a o xs vs} d=>by
  obtain⟨es,ep,h1,h2,h3,_⟩:=d.raw
  exact⟨es,ep,_,⟨d.at_,d.ns,h1,h2,by rw[h3];exact a6s _ (fun _=>rfl) xs,d.rk,d.sz⟩,by rw[h3];exact cj8 _ (fun _=>rfl) d.hv⟩
 cases m
 ·obtain⟨a,o,xs,vs,rfl,d⟩:=Vd.dict hI h
  obtain⟨es,ep,ks,q,hv⟩:=fin d
  exact⟨a,o,es,ep,ks,vs,rfl,q,hv,d.rv,fun H' e=>(show Ex H H' from e) _ _ d.at_ fun _ z=>by cases z⟩
 ·cases (h:Rp _ _ _ _)with
  |dct q ns raw ke kd rk hv rv sz=>
   have d:al0 K O H _ _ _ _ kvs:=⟨aa9 _ _ q (fun _ z=>by cases z),ns,raw,ke,kd,rk,hv,rv,sz⟩
   obtain⟨es,ep,ks,q',hv'⟩:=fin d
   exact⟨_,_,es,ep,ks,_,rfl,q',hv',rv,fun H' e=>(show Ex (hide H O) H' from e) _ _ q fun _ z=>by cases z⟩
  |dcti q ns raw ke ne rk hv rv sz=>rw[a6r ke ne]at hI;cases hI
theorem cl0 {m:Bool}{r:Sd→R D}{elts:List Expr}{kk:Nat}{tpos:Pos}(h:PEx X C W m e r)(hbase:attributeBase e "items" X.env (eval e X.env)=eval e X.env)(hline:(apos.endLine==cpos.line)=true):
  PIx X C W m (.Tuple elts kk tpos) (.Call (.Attribute e "items" apos) [] [] cpos) (fun τ=>((r τ).bind (o1 .itm)).bind fun d=>ofO (itemsOf d)):=by
 refine(cj5 h hbase hline).aa7 fun σ H Rr hh=> ?_
 obtain⟨O,τ,rs,hh⟩:=hh
 refine⟨O,τ,rs,?_⟩
 dsimp only at hh
 cases hz:r τ with
 |no=>rw[hz]at hh;exact hh
 |ex c=>rw[hz]at hh;exact hh
 |ok d=>
  rw[hz]at hh
  intro v H1 e1 rv
  cases d<;>try exact hh.elim
  rename_i kvs
  cases hI:isI kvs with
  |true=>
   have hh:Ans C W O H σ _ Rr ((if isI kvs=false then R.ok (PyData.list (kvs.map fun p=> .tuple [p.1,p.2]))else R.no).bind fun d=>ofO (itemsOf d)):=hh
   rw[hI]at hh
   exact hh.elim
  |false=>
   have hh:Ans C W O H σ _ Rr ((if isI kvs=false then R.ok (PyData.list (kvs.map fun p=> .tuple [p.1,p.2]))else R.no).bind fun d=>ofO (itemsOf d)):=hh
   rw[if_pos hI]at hh
   obtain⟨a,o,es,ep,ks,vs,rfl,dv,hv,rvs,st⟩:=Vd.ck0 hI rv
   refine⟨a,o,es,ep,ks,vs,rfl,dv.at_,dv.ns,dv.ex,dv.dt,dv.kv,hv,hh _ H1 e1 ⟨by simpa using dv.sz,?_⟩⟩
   show Walk _ (kvs.map fun p=>PyData.tuple [p.1,p.2]).length _ _
   have hl:(kvs.map fun p=>PyData.tuple [p.1,p.2]).length=ks.length:=by
        have:=dv.rk.length
        simp only[List.length_map]at this ⊢
        omega
   rw[hl,←bO4]
   exact(cj6 (d:=a) (o:=o) (ks:=ks) (vs:=vs)).mono (fun H' e=>st H' e) fun i H1 x H2 hi hg y=>bH1 dv.rk rvs y
end
end Fz
namespace Fz
open PySem PySem.Spec PyProof.Rows L2
variable [aa0] [FnT]
theorem bO5 {K:Fr'}{H:Hp}: ∀ {ys:List (NestedKey×Addr×Value)} {kvs:List (D×D)} {xs:List (NestedKey×Addr×Value)} {acc:List (D×D)},ab7 K H ys kvs→ab7 K H xs acc→ab7 K H (storedAllH xs ys) (kvs.foldl (fun acc p=>ai9 acc p.1 p.2) acc)
 |_,_,_,_,.nil,h=>h
 |_,_,xs,acc,.cons (k:=k) (v:=v) (a:=a) (u:=u) hd r1 r2 r3 t,h=>by
  have ih:=bO5 (xs:=storedH xs (nk k) a u) (acc:=ai9 acc k v) t (h.put hd r1 r2 r3)
  exact ih
section
variable {X:Cx} {pins:List (Addr×Obj)} {σ:L2.St} {H:Hp} {s:Shared} {O:List Addr}
theorem bO6     (I:Inv X pins σ H s): ∀ {ds:List D} {vs:List V} {its:List Value} {kvs:List (D×D)},aa1 X.K (hide H O) vs ds→Vals vs its→ao4 ds=some kvs→
   ∃(Ts:List Addr) (ys:List (NestedKey×Addr×Value)),its=Ts.map Value.ref∧Ts.length=ys.length∧ys.length=ds.length∧(∀(j:Nat) (T:Addr) (y:NestedKey×Addr×Value),Ts[j]? =some T→ys[j]? =some y→s.heap.IsTuple T #[.ref y.2.1,y.2.2])∧ab7 X.K (hide H O) ys kvs
 | [],_,_,_,.nil,.nil,h=>by
   cases h
   exact⟨[],[],rfl,rfl,rfl,fun j T y h=>by simp at h,.nil⟩
 | d::ds,_,    _,kvs,.cons r rs,.cons rv rvs,h=>by
   unfold ao4 at h
   split at h
   ·simp_all
   ·rename_i k v t e
    simp only[List.cons.injEq]at e
    obtain⟨rfl,rfl⟩:=e
    split at h
    ·   rename_i hk
        obtain⟨kvs',e1,rfl⟩:=Option.map_eq_some_iff.mp h
        obtain⟨Ts,ys,g1,g2,g3,g4,g5⟩:=bO6 I rs rvs e1
        cases r with
        |tup q rr z=>
         cases rr with
         |cons rk rr=>
          cases rr with
          |  cons rv' rr=>
             cases rr
             rename_i a v1 v2
             obtain⟨_,_,zs,ez⟩:=ap3 hk
             obtain⟨b,rfl⟩: ∃b,v1= .ref b:=by
               subst ez
               cases rk with
               |tup _ _ _=>exact⟨_,rfl⟩
             cases rv
             obtain⟨its2,w1,w2,_⟩:=I.tuple (af0 aa9 q.t)
             cases w1 with
             | cons w3 w4=>
               cases w4 with
               |cons w5 w6=>
                cases w6
                cases w3
                rename_i u2
                refine⟨a::Ts,(nk k,b,u2)::ys,by rw[g1];rfl,by simp[g2],by simp[g3],fun j T y h1 h2=> ?_,.cons hk rk w5 rv' g5⟩
                cases j with
                | zero=>
                  have h1:a=T:=by simpa using h1
                  have h2:(nk k,b,u2)=y:=by simpa using h2
                  subst h1 h2
                  exact w2
                |succ j=>exact g4 j T y (by simpa using h1) (by simpa using h2)
    ·cases h
   ·cases h
end
section
variable {X:Cx} {C:Nat→Addr} {W:WX} {a:Expr} {ra:Sd→R D} {p pos:Pos}
theorem bP0 {X:Cx}{pins:List (Addr×Obj)}{σ:L2.St}{H H1:Hp}{s1:Shared}{O:List Addr}{C:Nat→Addr}{W:WX}{Q:VK}{T:String}{l:Addr}{ws:List V}{ds:List D}{kvs:List (D×D)}{its:List Value}(pw:PWr X)(hc:X.calm=true)(hu:X.A.units+64<cLine)
  (P: ∀(Ts:Nat→Addr) (ps:List (Value×Value)),PairArg X.prog X.w T l (l::(List.range ps.length).map Ts) [] ps.length (PairRel ps) (fun h=>PlainSeq T h l its.toArray∧PairItems h its.toArray Ts ps))
  (I1:Inv X pins σ H1 s1) (e1:Same H H1) (rl:aa1 X.K (hide H1 O) ws ds) (rv:Vals ws its) (pl:PlainSeq T s1.heap l its.toArray) (z1:ds.length≤sizeLine) (hp:ao4 ds=some kvs) (q1:Ans C W O H1 σ (rF X.K O H) Q ((R.ok (.dict (aj0 kvs)):R D))):
  wpAny (model X.prog X.w) X.A (call (.type "dict") [.ref l]) (EP X pins σ Q) X.xe s1:=by
 obtain⟨Ts,ys,g1,g2,g3,g4,g5⟩:=bO6 I1 rl rv hp
 have hpi:PairItems s1.heap its.toArray (fun j=>Ts.getD j 0) (ys.map fun y=>(Value.ref y.2.1,y.2.2)):=by
  refine⟨by simp[g1,g2],fun j k v h=> ?_⟩
  rw[List.getElem?_map]at h
  obtain⟨y,hy,e⟩:=Option.map_eq_some_iff.mp h
  have hj:j<Ts.length:=by
   have:=(List.getElem?_eq_some_iff.mp hy).1
   omega
  have hT:Ts[j]? =some (Ts.getD j 0):=by
   rw[List.getD_eq_getElem?_getD,List.getElem?_eq_getElem hj];rfl
  cases e
  refine⟨?_,.inl (g4 j _ y hT hy)⟩
  rw[g1,List.getElem?_toArray,List.getElem?_map,hT]
  rfl
 have old1: ∀h':Heap,(∀b o,b≠s1.heap.objs.size→b∉([]:List Addr)→s1.heap.get? b=some o→h'.get? b=some o)→ ∀b o,s1.heap.get? b=some o→h'.get? b=some o:=fun h' k b o e=>k b o (Nat.ne_of_lt (Heap.lt_size e)) (by simp) e
 have keys: ∀ {ys:List (NestedKey×Addr×Value)} {kvs:List (D×D)} {h':Heap},ab7 X.K (hide H1 O) ys kvs→(∀b o,s1.heap.get? b=some o→h'.get? b=some o)→ ∀x∈ys,(nestedKind X.prog X.w).is h' x.1 x.2.1:=by
  intro ys kvs h' en hk
  induction en with
  |nil=>intro x hx;cases hx
  |cons hd ra rb rc t ih=>
   intro x hx
   rcases List.mem_cons.mp hx with rfl|hx
   ·exact aK1 (I1.kept (t':=s1.toks) hk) (ra.mono aa9) rfl hd
   ·exact ih x hx
 refine PySem.call_dict_pairsH (knd:=nestedKind X.prog X.w) (ps:=ys) (P (fun j=>Ts.getD j 0) (ys.map fun y=>(Value.ref y.2.1,y.2.2))) (I1.ok.hd hc) (by show X.A.units+1+1+8<cLine;omega) ⟨pl,hpi⟩ ⟨by simp,fun i key v hr=> ?_⟩ (fun h' k x hx=>keys g5 (old1 h' k) x hx) (by simp only[List.length_map];omega) fun h2 tk hd hk2=> ?_
 ·have hr:(ys.map fun y=>(Value.ref y.2.1,y.2.2))[i]? =some (key,v):=hr
  rw[List.getElem?_map]at hr
  obtain⟨y,hy,e⟩:=Option.map_eq_some_iff.mp hr
  cases e
  exact⟨y.1,y.2.1,hy,rfl⟩
 ·have old: ∀b ob,s1.heap.get? b=some ob→h2.get? b=some ob:=fun b ob e=>hk2 b ob (by simp) e
  have hn:H1 s1.heap.objs.size=none:=I1.hok.fresh (Nat.le_refl _)
  have en:ab7 X.K (hide H1 O) (storedAllH [] ys) (aj0 kvs):=bO5 g5 .nil
  have hlen:(aj0 kvs).length≤sizeLine:=by
   have h1:=en.length
   have h2:=storedAllH_length ys ([]:List (NestedKey×Addr×Value))
   simp only[List.length_nil]at h2
   omega
  have en2:ab7 X.K (hide H1 (s1.heap.objs.size::O)) (storedAllH [] ys) (aj0 kvs):=en.mono (a7j (.of hn) (fun _ _ q _=>q))
  obtain⟨o,ho,hi,hat⟩:=bN8 pw (O:=s1.heap.objs.size::O) List.mem_cons_self (beq_eq_false_iff_ne.mpr (Nat.ne_of_gt I1.big)) hd en2 hlen
  have I2:=I1.laid (a:=s1.heap.objs.size) (t':=tk) old (Nat.le_refl _) (aK0 ho)
  exact⟨.ref s1.heap.objs.size,_,I2,rfl,q1 _ _ (ab2 hn) (.inr ⟨_,_,rfl,rfl,e1.ex.free (.of hn),hat⟩)⟩
theorem a7p {ma:Bool}(pw:PWr X)(hc:X.calm=true)(hu:X.A.units+64<cLine)(hgl:Gl X "dict")(hm:X.mg "dict"=none)(ha:PEx X C W ma a ra)(hs:starEach [a] X.env=(false,eval a X.env)::starEach [] X.env):
  PFx X C W (.Call (.Name "dict" p) [a] [] pos) (fun τ=>(ra τ).bind (o1 .dprs)):=by
 refine⟨fun pins s σ H Q I h=> ?_⟩
 obtain⟨O,τ,rs,h⟩:=h
 refine Call_ (ld_blt I hgl hm boot_dict (PyProof.Rows.callWith_type1 (thn ((pa_cons ha pa_nil hs).run pos pins s σ H (fun vs H1=> ∃d v,vs=[v]∧Same H H1∧Vd X.K O H1 v d∧Ans C W O H1 σ (rF X.K O H) Q (o1 .dprs d)) I ⟨O,τ,rs,Ans.step h fun d v H1 e r z=>⟨d,v,rfl,e,ac0 r,z⟩⟩) fun us s1 ⟨vs,H1,I1,r1,d,v,ev,e1,vd,q1⟩=> ?_) hs rfl))
 subst ev
 cases d<;>try exact q1.elim
 ·rename_i ds
  have q1:Ans C W O H1 σ (rF X.K O H) Q ((ofO (ao4 ds)).bind fun ps=> .ok (.dict (aj0 ps))):=q1
  cases hp:ao4 ds with
  |none=>rw[hp]at q1;exact q1.elim
  |some kvs=>
   rw[hp]at q1
   obtain⟨l,ws,rfl,sq,rl,z1⟩:=vd.list
   rw[Vals.ref1 r1]
   obtain⟨its,rv,pl,_⟩:=I1.list sq
   exact bP0 pw hc hu (fun Ts ps=>PairArg.list l its.toArray Ts ps) I1 e1 rl rv pl z1 hp q1
 ·rename_i ds
  have q1:Ans C W O H1 σ (rF X.K O H) Q ((ofO (ao4 ds)).bind fun ps=> .ok (.dict (aj0 ps))):=q1
  cases hp:ao4 ds with
  |none=>rw[hp]at q1;exact q1.elim
  |some kvs=>
   rw[hp]at q1
   obtain⟨l,ws,rfl,sq,rl,z1⟩:=vd.tuple
   rw[Vals.ref1 r1]
   obtain⟨its,rv,pl,_⟩:=bA2 I1 (a1T aa9 sq)
   exact bP0 pw hc hu (fun Ts ps=>PairArg.tuple l its.toArray Ts ps) I1 e1 rl rv pl z1 hp q1
end
end Fz
namespace Fz
open PySem PySem.Spec L2 PyProof.Rows
def a2Q (o:Obj):Prop:= ∃v,o.data= .cell v
def Cls (H:Hp)(cs:List Addr):Prop:= ∀c∈cs,∃o,H c=some (setAt c o)∧a2Q o
theorem Cls.not {H:Hp}{cs:List Addr}(L:Cls H cs){b:Addr}{u:HO}(e:H b=some u)(n: ∀o,a2Q o→u≠setAt b o):b∉cs:=fun z=>by
 obtain⟨o,q,d⟩:=L b z
 rw[e]at q
 exact n o d (Option.some.inj q)
section
variable {P:Program} {w:World} {K:Fr'} {mg:Str→Option Value} {base:Heap} {A:Around} {outer:List Env} {s s':Shared} {H H2:Hp} {cs:List Addr}
theorem Env0.cut (e:Env0 P w K mg base A outer s H)(L:Cls H cs):Env0 P w K mg base A outer s (hide H cs):=by
 refine⟨e.frames,e.mod,fun b o q=>⟨(e.bs b o q).1,aF1 (e.bs b o q).2⟩,e.bsz,e.funs,fun b hb=>aF1 (e.frf b hb),fun a o q=> ?_,e.bare⟩
 obtain⟨h1,h2⟩:=au6 q
 exact(e.hok a o h2).stay (fun b u _ q=>q) (fun b q=>by rw[ac1 (L.not q fun o _ z=>by cases z)];exact q) (fun b xs q=>by rw[ac1 (L.not q fun o _ z=>by cases z)];exact q)
end
end Fz
namespace Fz
open PySem PySem.Spec L2 PyProof.Rows
def cl5:Arguments→Option (List Str)
 |⟨[],[a],none,[],[],none,[]⟩=>if a.arg="row" then some ["row"]else if a.arg="view" then some ["view"]else none
 |⟨[],[a,b,c],none,[],[],none,[]⟩=>if a.arg="field"∧b.arg="kind"∧c.arg="row" then some ["field","kind","row"]else none
 |_=>none
structure cl6 (ps:List Str)(clo:List (Str×Addr))(scope:Scope)(N:List Str):Prop where
 kind:scope.kind= .function
 co:scope.isCoroutine=false
 gen:scope.isGenerator=false
 nd:N.Nodup
 pre:N.take ps.length=ps
 par: ∀x∈ps,scope.names.lookup x=some .local
 cel: ∀y∈scope.names,y.2≠ .cell
 loc: ∀y,scope.names.lookup y=some .local→y∈ps
 free: ∀y,scope.names.lookup y=some .free→ ∃c,clo.lookup y=some c
 inj: ∀y z c,clo.lookup y=some c→clo.lookup z=some c→y=z
end Fz
namespace Fz
open PySem PySem.Spec L2 PyProof.Rows
variable [aa0]
structure Clo where
 f:Addr
 ok:Hp→Prop
 m:List D→R D
structure ag7 (P:Program)(w:World)(K:Fr')(mg:Str→Option Value)(base:Heap)(k:Nat)(g:Clo):Prop where
 mono: ∀H H':Hp,Ex H H'→g.ok H→g.ok H'
 at_:(∀(A:Around) (outer:List Env) (s:Shared) (H:Hp),Env0 P w K mg base A outer s H→g.ok H→PySem.W.FnAt g.f s.heap)∨PySem.W.keepIn K (.ref g.f)=true
 run: ∀(A:Around) (outer:List Env) (s:Shared) (H:Hp) (us:List Value) (vs:List V) (ds:List D) (d:D) (Q:VK) (E:XK),Room k A→Env0 P w K mg base A outer s H→LamX.Tabs aa0.T H→g.ok H→Vals vs us→aa1 K H vs ds→g.m ds= .ok d→
  (∀v H',Same H H'→Rp K H' v d→Q v H')→codeAny (model P w) A (.call (.ref g.f) ⟨us,[]⟩) (CR (L2.CX P w) outer P w H s Q E) s
theorem ag7.up {P:Program}{w:World}{K:Fr'}{mg:Str→Option Value}{base:Heap}{k l:Nat}{g:Clo}(h:ag7 P w K mg base k g)(e:k≤l):ag7 P w K mg base l g:=
 ⟨h.mono,h.at_,fun A outer s H us vs ds d Q E hr=>h.run A outer s H us vs ds d Q E (hr.mono e)⟩
structure cl8 (K:Fr')(base:Heap)(f c':Addr)(fo:Obj)(q:Str)(clo:List (Str×Addr))(N:List Str)(np:Nat)(ws:List V)(cs:List D)(H:Hp):Prop where
 fn:H f=some (setAt f fo)
 co:H c'=some (LamX.CodeO c' q)
 cl: ∀y c,clo.lookup y=some c→ ∃o,H c=some (setAt c o)∧a2Q o
 cap: ∀(j:Nat) (y:Str) (x:V),N[np+j]? =some y→ws[j]? =some x→ ∃c o u,clo.lookup y=some c∧H c=some (setAt c o)∧o.data= .cell (some u)∧RelV x u
 rp:aa1 K H ws cs
theorem calm_eq {α:Type}{r:R α}{a:α}(h:r.calm= .ok a):r= .ok a:=by
 cases r with
 |ok b=>exact h
 |ex c=>cases h
 |no=>cases h
section
variable [FnT] {P:Program} {w:World} {K:Fr'} {mg:Str→Option Value} {base:Heap} {C:Nat→Addr} {Φ:Nat→List D→R D} {k:Nat} {N ps:List Str} {q:Str} {scope:Scope} {f c':Addr} {clo:List (Str×Addr)} {params:Arguments} {body:Expr} {pm ctv:Value} {ws:List V} {cs:List D} {e:E}
theorem bP2 {x:Str}{m:List D→R D}(F:FnG P w K mg base C k x m): ∃f,mg x=some (.ref f)∧PySem.W.keepIn K (.ref f)=true∧ag7 P w K mg base k ⟨f,fun _=>True,fun ds=>(m ds).calm⟩:=by
 obtain⟨j,f,fd,ps,hj,h1,h2,h3,h4,h5⟩:=F
 refine⟨f,h2,h3,fun _ _ _ _=>trivial,.inr h3,fun A outer s H us vs ds d Q E hr e0 t _ r rp hm hq=> ?_⟩
 ·have KX:K.In s.heap:=e0.mod.kin.keeps fun b o e=>(e0.bs b o e).1
  have hm':m ds= .ok d:=calm_eq hm
  have hsp:spM K C m vs H Q E:=⟨ds,rp,t,by rw[hm'];exact hq⟩
  have hl:us.length=ps.length:=by rw[←r.length];exact h1.len _ _ _ _ hsp
  have b:=h4 s us KX (by rw[List.append_nil];exact hl)
  rw[List.append_nil]at b
  exact h1.run A outer s H ⟨us,[]⟩ us vs Q E (hr.mono hj) e0 b r hsp
end
end Fz
namespace Fz
open PySem PySem.Spec L2 PyProof.Rows
section
variable {X:Cx} {pins:List (Addr×Obj)} {σ:L2.St} {H:Hp} {s:Shared}
theorem Inv.track {f:Addr}{fo:Obj}(I:Inv X pins σ H s)(hf:s.heap.get? f=some fo)(hn:H f=none)(h0:X.s_0.heap.objs.size≤f)(hl:X.env.locals≠f)(hc: ∀x c,X.env.cells.lookup x=some c→c≠f)(hp: ∀p∈X.pn++pins,p.1≠f):
  Inv X pins σ (upd H f (setAt f fo)) s:=by
 have ne: ∀ {b:Addr} {o:HO},H b=some o→b≠f:=fun {b o} e z=>by subst z;rw[hn]at e;cases e
 refine⟨I.ok,I.os,I.bare,⟨I.base.keep,I.base.slot,fun b o q n hx=> ?_,I.base.there,fun b xs q=> ?_,fun b o u q=> ?_,fun b ps q=> ?_⟩,I.loc,I.cell,?_,fun x c e=> ?_,fun p q=> ?_,fun a o e=> ?_,I.len⟩
 ·rw[upd_ne (Nat.ne_of_lt (Nat.lt_of_lt_of_le (Heap.lt_size q) h0))];exact I.base.free b o q n hx
 ·have z:=I.base.tups b xs q
  rw[upd_ne (ne z)];exact z
 ·have z:=I.base.frzs b o u q
  rw[upd_ne (ne z)];exact z
 ·obtain⟨m,z⟩:=I.base.tbls b ps q
  exact⟨m,by rw[upd_ne (ne z)];exact z⟩
 ·rw[upd_ne hl];exact I.free
 ·rw[upd_ne (hc x c e)];exact I.freeC x c e
 ·obtain⟨h1,h2,h3⟩:=I.pin p q
  exact⟨h1,by rw[upd_ne (hp p q)];exact h2,h3⟩
 ·by_cases z:a=f
  ·subst z
   rw[upd_same]at e
   cases e
   exact⟨hf,⟨_,hf⟩,fun h1 h2 g st=>st _ g⟩
  ·rw[upd_ne z]at e
   exact(I.hok a o e).stay (fun b u _ q=>q) (fun b q=>by rw[upd_ne (ne q)];exact q) (fun b xs q=>by rw[upd_ne (ne q)];exact q)
theorem Inv.cm1 {f:Addr}{fo:Obj}{H1:Hp}{s1:Shared}(I0:Inv X pins σ H s)(I:Inv X pins σ H1 s1)(hf:s1.heap.get? f=some fo)(hn:H1 f=none)(hs:s.heap.objs.size≤f):Inv X pins σ (upd H1 f (setAt f fo)) s1:=by
 have lt: ∀ {b:Addr} {o:Obj},s.heap.get? b=some o→b≠f:=fun {b o} e=>Nat.ne_of_lt (Nat.lt_of_lt_of_le (Heap.lt_size e) hs)
 refine Inv.track I hf hn (Nat.le_trans I0.sz hs) (Nat.ne_of_lt (Nat.lt_of_lt_of_le I0.lt hs)) (fun x c e=> ?_) (fun p hp=> ?_)
 ·obtain⟨v,o,ho,_⟩:=I0.cell x c e
  exact lt ho
 ·exact lt (I0.pin p hp).1
open LamX in
theorem cm3 {T:List (Addr×Str)}{c P:Addr}{params:Arguments}{body:Expr}{scope:Scope}{pos:Pos}{E:Value→Shared→Prop}{Q:Value→Shared→Prop}(I:Inv X pins σ H s)(TB:TabB X.base X.mg c P)(hcode:X.env.code= .ref c)
  (hm:(P,X.env.qual++"<lambda>")∈T) (hu: ∀p∈T,p.1=P→p.2=X.env.qual++"<lambda>") (hT:Tabs T H) (hdef:defaultsOf params X.env=([],[])) (hfree: ∀y∈scope.names,y.2= .free→ ∃c,X.env.cells.lookup y.1=some c)
  (h: ∀(f c':Addr) (pm ctv:Value) (H1:Hp) (s':Shared),Inv X pins σ H1 s'→Ex H H1→Tabs T H1→H1 f=some (setAt f (PySem.W.kla_obj "<lambda>" (X.env.qual++"<lambda>") params body scope (cloFrom X.env.cells scope.names []) pm c' ctv))→H1 c'=some (CodeO c' (X.env.qual++"<lambda>"))→Q (.ref f) s'):
  wpAny (model X.prog X.w) X.A (eval (.Lambda params body scope pos) X.env) Q E s:=by
 obtain⟨ps,tP,tOk,tCo⟩:=hT _ hm
 refine PySem.W.kla_eval hdef ?_
 have bP:=TB.bm.keeps I.bk
 have oP:s.heap.get? P=some { cls:= .none,data:= .fields ps }:=I.hok P _ tP
 have last: ∀ {f c':Addr} {H1:Hp} {s':Shared} {fo:Obj},Inv X pins σ H1 s'→Ex H H1→Tabs T H1→s'.heap.get? f=some fo→H1 f=none→s.heap.objs.size≤f→H1 c'=some (CodeO c' (X.env.qual++"<lambda>"))→
   Inv X pins σ (upd H1 f (setAt f fo)) s'∧Ex H (upd H1 f (setAt f fo))∧Tabs T (upd H1 f (setAt f fo))∧upd H1 f (setAt f fo) f=some (setAt f fo)∧upd H1 f (setAt f fo) c'=some (CodeO c' (X.env.qual++"<lambda>")):=fun {f c' H1 s' fo} I1 x1 t1 hf hn hs hc=>by
  have k: ∀b o,H1 b=some o→upd H1 f (setAt f fo) b=some o:=fun b o e=>by
   rw[upd_ne fun z=>by subst z;rw[hn]at e;cases e]
   exact e
  exact⟨Inv.cm1 I I1 hf hn hs,x1.trans (.of k),t1.ext k,upd_same,k _ _ hc⟩
 cases ha:codeAmong pos ps.toList with
 |some cv=>
  obtain⟨c',rfl,oC⟩:=tCo pos cv ha
  refine PySem.W.kla_makeFunctionHit (mg:=X.mg) (c:=c) (P:=P) (ps:=ps) (closure_ok hfree) I.ok.glob (I.mod.glob.keeps I.bk) hcode (TB.code.keeps I.bk) oP tOk ha bP fun ctv g tk kp sz=> ?_
  have I1:=I.kept (t':=tk) (h':=g.push (PySem.W.kla_obj "<lambda>" (X.env.qual++"<lambda>") params body scope (cloFrom X.env.cells scope.names []) ((X.mg "__name__").getD .none) c' ctv)) fun b o e=>Heap.get?_push_of_some _ (kp b o e)
  obtain⟨a1,a2,a3,a4,a5⟩:=last I1 (Ex.refl H) hT (Heap.get?_push_size _ rfl) (I.hok.fresh sz) sz oC
  exact h _ _ _ _ _ _ a1 a2 a3 a4 a5
 |none=>
  refine PySem.W.kla_makeFunction (mg:=X.mg) (c:=c) (P:=P) (ps:=ps) (closure_ok hfree) I.ok.glob (I.mod.glob.keeps I.bk) hcode (TB.code.keeps I.bk) oP tOk ha TB.gP bP fun c' ctv g tk kx ge lt rec tb=> ?_
  obtain⟨c2,oc,fs,t,ec,g1,g2,g3⟩:=rec
  cases ec
  have sz:s.heap.objs.size≤g.objs.size:=Nat.le_trans ge (Nat.le_of_lt lt)
  have nC:H c'=none:=I.hok.fresh ge
  have nP:c'≠P:=fun z=>by rw[z,tP]at nC;cases nC
  have I1:=inv_table (t':=tk) (more:= #[rawInt pos.line,rawInt pos.col,.ref c']) (q:=X.env.qual++"<lambda>") (h':=g.push (PySem.W.kla_obj "<lambda>" (X.env.qual++"<lambda>") params body scope (cloFrom X.env.cells scope.names []) ((X.mg "__name__").getD .none) c' ctv)) I tP
   (fun b o nb e=>Heap.get?_push_of_some _ (kx b o nb e)) (Heap.get?_push_of_some _ tb) ge ⟨oc,fs,t,Heap.get?_push_of_some _ g1,g2,g3⟩
  generalize hH:upd (upd H P (.tbl (ps++ #[rawInt pos.line,rawInt pos.col,.ref c']))) c' (CodeO c' (X.env.qual++"<lambda>"))=H1 at I1
  have atC:H1 c'=some (CodeO c' (X.env.qual++"<lambda>")):=by rw[←hH,upd_same]
  have atP:H1 P=some (.tbl (ps++ #[rawInt pos.line,rawInt pos.col,.ref c'])):=by rw[←hH,upd_ne (Ne.symm nP),upd_same]
  have oth: ∀b,b≠P→b≠c'→H1 b=H b:=fun b z1 z2=>by rw[←hH,upd_ne z2,upd_ne z1]
  have x1:Ex H H1:=fun b o e n=>by
   rw[oth b (fun z=>n ps (Option.some.inj (e.symm.trans (by rw[z];exact tP)))) (fun z=>by rw[z,nC]at e;cases e)]
   exact e
  have t1:Tabs T H1:=fun p hp=>by
   by_cases z:p.1=P
   ·    rw[hu p hp z,z]
        have eL:(ps++ #[rawInt pos.line,rawInt pos.col,Value.ref c']).toList=ps.toList++[rawInt pos.line,rawInt pos.col,.ref c']:=by simp
        refine⟨_,atP,by rw[eL];exact PySem.TriplesOk_snoc _ _ _ _ tOk,fun p' cv hv=> ?_⟩
        rw[eL]at hv
        rcases among_app _ tOk hv with y|y
        ·obtain⟨c0,e1,e2⟩:=tCo p' cv y
         exact⟨c0,e1,x1 _ _ e2 codeO_ne⟩
        ·exact⟨c',y,atC⟩
   ·    obtain⟨ps',a1,a2,a3⟩:=hT p hp
        refine⟨ps',by rw[oth p.1 z (fun y=>by rw[y,nC]at a1;cases a1)];exact a1,a2,fun p' cv hv=> ?_⟩
        obtain⟨c0,e1,e2⟩:=a3 p' cv hv
        exact⟨c0,e1,x1 _ _ e2 codeO_ne⟩
  have hn:H1 g.objs.size=none:=by
   rw[oth _ (Nat.ne_of_gt (Nat.lt_of_lt_of_le (Heap.lt_size oP) sz)) (Nat.ne_of_gt lt)]
   exact I.hok.fresh sz
  obtain⟨a1,a2,a3,a4,a5⟩:=last I1 x1 t1 (Heap.get?_push_size _ rfl) hn sz atC
  exact h _ _ _ _ _ _ a1 a2 a3 a4 a5
end
end Fz
namespace Fz
open PySem PySem.Spec L2 PyProof.Rows
def aL0 (H:Hp)(L:List (Addr×Obj)):Hp:=fun b=>match L.lookup b with
 |some o=>some (setAt b o)
 |none=>H b
theorem cm4 {H:Hp}{L:List (Addr×Obj)}{b:Addr}{o:Obj}(h:L.lookup b=some o):aL0 H L b=some (setAt b o):=by unfold aL0;rw[h]
theorem a2R {H:Hp}{L:List (Addr×Obj)}{b:Addr}(h:L.lookup b=none):aL0 H L b=H b:=by unfold aL0;rw[h]
def bP3 (base:Heap)(outer:List Env)(H:Hp)(h:Heap)(L:List (Addr×Obj)):Prop:= ∀c o,L.lookup c=some o→h.get? c=some o∧a2Q o∧H c=none∧base.get? c=none∧c∉frs outer
section
variable {P:Program} {w:World} {K:Fr'} {mg:Str→Option Value} {base:Heap} {A:Around} {outer:List Env} {s s':Shared} {H H2:Hp} {L:List (Addr×Obj)}
theorem bP4 (hL:bP3 base outer H s.heap L): ∀b o,H b=some o→aL0 H L b=some o:=fun b o e=>by
 cases h:L.lookup b with
 |none=>rw[a2R h];exact e
 |some ob=>rw[(hL b ob h).2.2.1]at e;cases e
theorem Env0.add (e:Env0 P w K mg base A outer s H)(hL:bP3 base outer H s.heap L):Env0 P w K mg base A outer s (aL0 H L):=by
 refine⟨e.frames,e.mod,fun b o q=>⟨(e.bs b o q).1,?_⟩,e.bsz,e.funs,fun b hb=> ?_,fun a o q=> ?_,e.bare⟩
 ·cases h:L.lookup b with
  |none=>rw[a2R h];exact(e.bs b o q).2
  |some ob=>rw[(hL b ob h).2.2.2.1]at q;cases q
 ·cases h:L.lookup b with
  |none=>rw[a2R h];exact e.frf b hb
  |some ob=>exact absurd hb (hL b ob h).2.2.2.2
 ·cases h:L.lookup a with
  |none=>
   rw[a2R h]at q
   exact(e.hok a o q).stay (fun b u _ q=>q) (fun b q=>bP4 hL _ _ q) (fun b xs q=>bP4 hL _ _ q)
  |some ob=>
   rw[cm4 h]at q
   cases q
   have g:=(hL a ob h).1
   exact⟨g,⟨_,g⟩,fun h1 h2 g st=>st _ g⟩
end
variable [aa0]
end Fz
namespace Fz
open PySem PySem.Spec L2 PyProof.Rows
structure a7r where
 x:Str
 nd:Nat
 fc:List Nat→List Expr→Bool
structure cm5 (ps:List Str)(scope:Scope)(N:List Str):Prop where
 kind:scope.kind= .function
 co:scope.isCoroutine=false
 gen:scope.isGenerator=false
 nd:N.Nodup
 pre:N.take ps.length=ps
 par: ∀x∈ps,scope.names.lookup x=some .local
 cel: ∀y∈scope.names,y.2≠ .cell
 loc: ∀y,scope.names.lookup y=some .local→y∈ps
variable [aa0]
inductive aw4 (X:Cx):List Expr→List Clo→Prop
 |nil:aw4 X [] []
 |cons {x:Str} {p:Pos} {es:List Expr} {g:Clo} {gs:List Clo}:Gl X x→X.mg x=some (.ref g.f)→(x==("__debug__":Str))=false→aw4 X es gs→aw4 X (.Name x p::es) (g::gs)
theorem aw4.pa {X:Cx}{es:List Expr}{gs:List Clo}(h:aw4 X es gs){fes:List Expr}{t:TA}(ht:PA X fes t):PA X (es++fes) (fun σ H Q=>t σ H fun vs H1=>Q (gs.map (fun g=>V.ref g.f)++vs) H1):=by
 induction h with
 |nil=>exact ht
 |cons hg hm hd _ ih=>exact pa_cons (pe_glob (v:= .ref _) hg hm rfl hd) ih rfl
structure cm6 (X:Cx)(lv:Nat)(caps:List Nat)(params:Arguments)(body:Expr)(scope:Scope)(ps N:List Str)(m:List D→List D→R D):Prop where
 par:cl5 params=some ps
 len:N.length=ps.length+caps.length
 sc:cm5 ps scope N
 free: ∀y∈scope.names,y.2= .free→X.env.scope.names.lookup y.1=some .cell
 cap: ∀(j i:Nat),caps[j]? =some i→ ∃y,X.N[i]? =some y∧N[ps.length+j]? =some y∧X.env.scope.names.lookup y=some .cell∧(y,NameKind.free)∈scope.names
 fn: ∀x,X.fn x=true
 run: ∀(f c':Addr) (clo:List (Str×Addr)) (pm ctv:Value) (ws:List V) (cs:List D),cl6 ps clo scope N→ws.length=caps.length→
  ag7 X.prog X.w X.K X.mg X.base lv ⟨f,cl8 X.K X.base f c' (PySem.W.kla_obj "<lambda>" (X.env.qual++"<lambda>") params body scope clo pm c' ctv) (X.env.qual++"<lambda>") clo N ps.length ws cs,m cs⟩
def cm8 (X:Cx):Prop:= ∃c P,LamX.TabB X.base X.mg c P∧X.env.code= .ref c∧(P,X.env.qual++"<lambda>")∈aa0.T∧ ∀p∈aa0.T,p.1=P→p.2=X.env.qual++"<lambda>"
def cm9 (X:Cx)(lv nf:Nat)(M:List (List D→R D)→List D→R D)(nd:Nat)(φ:List D→R D)(caps:List Nat)(fes:List Expr):Prop:=
 ∃  (es:List Expr) (gs:List Clo),aw4 X es gs∧(∀g∈gs,ag7 X.prog X.w X.K X.mg X.base lv g∧ ∀H,g.ok H)∧
    ((fes=es∧caps=[]∧gs.length=nf∧ ∀ds,ds.length=nd→φ ds=M (gs.map (·.m)) ds)∨
     ∃(params:Arguments) (body:Expr) (scope:Scope) (lpos:Pos) (ps N:List Str) (m:List D→List D→R D),fes=es++[.Lambda params body scope lpos]∧gs.length+1=nf∧cm6 X lv caps params body scope ps N m∧cm8 X∧
      ∀ds cs,ds.length=nd→cs.length=caps.length→φ (ds++cs)=M (gs.map (·.m)++[m cs]) ds)
structure a2T (X:Cx)(h:a7r)(φ:List D→R D):Prop where
 ex: ∃(lv nf:Nat) (f:Addr) (M:List (List D→R D)→List D→R D),X.mg h.x=some (.ref f)∧PySem.W.keepIn X.K (.ref f)=true∧(h.x==("__debug__":Str))=false∧Room (lv+1) X.A∧
  (∀(A:Around) (outer:List Env) (s:Shared) (H:Hp) (us:List Value) (vds:List V) (ds:List D) (gs:List Clo) (d:D) (Q:VK) (E:XK),Room (lv+1) A→Env0 X.prog X.w X.K X.mg X.base A outer s H→LamX.Tabs aa0.T H→Vals (vds++gs.map fun g=>V.ref g.f) us→aa1 X.K H vds ds→
   ds.length=h.nd→gs.length=nf→(∀g∈gs,ag7 X.prog X.w X.K X.mg X.base lv g∧g.ok H)→M (gs.map (·.m)) ds= .ok d→(∀v H',Same H H'→Rp X.K H' v d→Q v H')→codeAny (model X.prog X.w) A (.call (.ref f) ⟨us,[]⟩) (CR (L2.CX X.prog X.w) outer X.prog X.w H s Q E) s)∧
  ∀caps fes,h.fc caps fes=true→cm9 X lv nf M h.nd φ caps fes
end Fz
namespace Fz
open PySem PySem.Spec L2
structure Cfg where
 N:List Str
 sc:Scope
 st:List Str
 fns:List (Str×Nat)
 glo:List (Str×D)
 exs:List (Str×Nat)
 thk:List (Str×Nat):=[]
 trs:List (Nat×List Nat×List (Nat×Nat)):=[]
 hof:List (Nat×a7r):=[]
 fcs:Bool:=false
 frs:List (Str×Nat):=[]
 gds:List (Nat×Str×Str×Nat):=[]
 srt:List (Str×Nat):=[]
 pls:List (Str×Nat):=[]
 obs:List (Nat×Str×Nat):=[]
mutual
def eqD:D→D→Bool
 | .none,.none=>true
 | .bool a,.bool b=>a==b
 | .int a,.int b=>decide (a=b)
 | .str a,.str b=>decide (a=b)
 | .list a,.list b=>aG3 a b
 | .tuple a,.tuple b=>aG3 a b
 |_,_=>false
def aG3:List D→List D→Bool
 | [],[]=>true
 |a::r,b::s=>eqD a b&&aG3 r s
 |_,_=>false
end
mutual
theorem aL1: ∀(a b:D),eqD a b=true→a=b
 | .none,b,h=>by cases b<;>first|rfl|(simp[eqD]at h)
 | .bool a,b,h=>by cases b<;>simp[eqD]at h;rw[h]
 | .int a,b,h=>by cases b<;>simp[eqD]at h;rw[h]
 | .str a,b,h=>by cases b<;>simp[eqD]at h;rw[h]
 | .list a,b,h=>by cases b<;>simp[eqD]at h;rw[a7s a _ h]
 | .tuple a,b,h=>by cases b<;>simp[eqD]at h;rw[a7s a _ h]
 | .dict a,b,h=>by cases b<;>simp[eqD]at h
theorem a7s: ∀(a b:List D),aG3 a b=true→a=b
 | [],b,h=>by cases b<;>first|rfl|(simp[aG3]at h)
 |x::r,b,h=>by
  cases b with
  |nil=>simp[aG3]at h
  |cons y s=>
   simp only[aG3,Bool.and_eq_true]at h
   rw[aL1 x y h.1,a7s r s h.2]
end
def a7u (c:Cfg)(x:Str):Bool:=match c.sc.names.lookup x with
 |some .local=>true
 |some .cell=>true
 |some .free=>true
 |_=>false
def glB (c:Cfg)(x:Str):Bool:=match c.sc.names.lookup x with
 |some .globalImplicit=>true
 |_=>false
def nmB (x:Str):Bool:= !(x==("__debug__":Str))&& !(x==("__classdict__":Str))&& !(x==("__name__":Str))
def an3 (c:Cfg)(i:Nat)(x:Str):Bool:=decide (c.N[i]? =some x)&&a7u c x&&nmB x
def ac6 (c:Cfg)(k x:Str):Bool:=x==k&&glB c x
def ab6:Expr→Bool
 | .Starred .. =>false
 |_=>true
def plainT:Expr→Bool
 | .UnaryOp .. =>false
 | .BoolOp .. =>false
 | .IfExp .. =>false
 | .Compare .. =>false
 |_=>true
def az1:Expr→Bool
 | .Set .. =>false
 |_=>true
def bP5:Expr→Bool
 | .Slice .. =>false
 |_=>true
def bP6 (c:Cfg)(d:D):Expr→Bool
 | .Constant (.int i) _ _=>eqD d (.int i)
 | .Constant (.bool i) _ _=>eqD d (.bool i)
 | .Constant .none _ _=>eqD d .none
 | .Constant (.str s) _ _=>eqD d (.str s)&&PyData.strOk s&&decide (s.length≤sizeLine)
 | .Name x _=>glB c x&&nmB x&&(match c.glo.lookup x with|some d'=>eqD d d'|none=>false)
 |_=>false
inductive Md where
 |str|pk|tst|src (m:Bool) (tg:Expr)
def Md.sub:Md→Md
 | .tst=> .tst
 |_=> .str
def cn0:Md→Bool
 | .tst=>true
 |_=>false
def plB (md:Md)(x:Expr):Bool:=match md with
 | .tst=>plainT x
 |_=>true
def aL3:Md→Bool
 | .src _ (.Tuple ..)=>true
 |_=>false
def Md.deep:Md→Md
 | .src true _=> .str
 |_=> .pk
def u1n:U→Option Str
 | .len=>some "len"
 | .all=>some "all"
 | .any=>some "any"
 | .sum=>some "sum"
 | .int=>some "int"
 | .tup=>some "tuple"
 | .lst=>some "list"
 | .lsts=>some "list"
 | .sorted=>some "sorted"
 | .min=>some "min"
 | .max=>some "max"
 | .mint=>some "min"
 |_=>none
def a7w:U→Option Str
 | .isStr=>some "str"
 | .isTup=>some "tuple"
 | .ag4=>some "list"
 | .isInt=>some "int"
 | .isBool=>some "bool"
 |_=>none
def opn:B→Operator→Bool
 | .add,.Add=>true
 | .sub,.Sub=>true
 | .mul,.Mult=>true
 | .fdiv,.FloorDiv=>true
 | .mod,.Mod=>true
 | .pow,.Pow=>true
 |_,_=>false
def aU0:B→CmpOp→Bool
 | .eq,.Eq=>true
 | .ne,.NotEq=>true
 | .lt,.Lt=>true
 | .le,.LtE=>true
 | .gt,.Gt=>true
 | .ge,.GtE=>true
 | .mem,.In=>true
 | .nmem,.NotIn=>true
 | .iss,.Is=>true
 | .isn,.IsNot=>true
 |_,_=>false
def tgB (c:Cfg):Tg→Expr→Option (List (Str×Nat))
 | .one i,.Name x _=>if c.N[i]? =some x∧x∈c.st then some [(x,i)]else none
 | .tup is,.Tuple es _ _=>go is es
 |_,_=>none
where go:List Nat→List Expr→Option (List (Str×Nat))
 | [],[]=>some []
 |i::is,.Name x _::es=>if c.N[i]? =some x∧x∈c.st then(go is es).map ((x,i):: ·)else none
 |_,_=>none
def Cfg.blk (c:Cfg)(scope:Scope):Cfg:= { c with sc:=relS scope c.sc,st:=(scope.names.filter fun p=>p.2== .local||p.2== .cell).map (·.1),thk:=[],hof:=[],frs:=[],gds:=[],srt:=[],pls:=[] }
def Cfg.lam (c:Cfg)(scope:Scope):Cfg:= { c with sc:=scope,st:=[],thk:=[],hof:=[],fcs:=false,frs:=[],gds:=[],srt:=[],pls:=[],obs:=[] }
def a2U:E→Bool
 | .cst (.bool true)=>true
 |_=>false
mutual
def ck (c:Cfg):Md→E→Expr→Bool
 |  _,.var i,x=>(match x with
    | .Name n _=>an3 c i n
    |_=>false)
 |_,.pk ..,_=>false
 |_,.cst d,x=>bP6 c d x
 |  _,.tup es,x=>(match x with
    | .Tuple xs _ _=>decide (xs.length≤sizeLine)&&ckL c es xs
    |_=>false)
 |  _,.lst es,x=>(match x with
    | .List xs _=>decide (xs.length≤sizeLine)&&ckL c es xs
    |_=>false)
 |  md, .u o a,x=>(match x with
    | .UnaryOp .Not y _=>(o== .nt&&ck c md.sub a y)||(o== .emp&&cn0 md&&plainT y&&ck c .str a y)
    | .UnaryOp .USub y _=>o== .neg&&plB md x&&ck c .str a y
    | .Call (.Name n _) [y] [] _=>(match o with
      | .rng=>(match md with| .src _ _=>true|_=>false)&&ac6 c "range" n&&ab6 y&&ck c .pk a y
      | .enm=>aL3 md&&ac6 c "enumerate" n&&ab6 y&&ck c md.deep a y
      | .sset=>(match y with
        | .Call (.Name n2 _) [z] [] _=>ac6 c "sorted" n&&ac6 c "set" n2&&ab6 z&&ck c .pk a z
        |_=>false)
      | .lset=>(match y with
        | .Call (.Name n2 _) [z] [] _=>ac6 c "len" n&&ac6 c "set" n2&&ab6 z&&ck c .pk a z
        |_=>false)
      | .lrng=>(match y with
        | .Call (.Name n2 _) [z] [] _=>ac6 c "list" n&&ac6 c "range" n2&&ab6 z&&ck c .pk a z
        |_=>false)
      | .dprs=>ac6 c "dict" n&&ab6 y&&ck c .pk a y
      | .dprF=>ac6 c "dict" n&&ab6 y&&ck c .pk a y
      | .denm=>(match y with
        | .Call (.Name n2 _) [z] [] _=>ac6 c "dict" n&&ac6 c "enumerate" n2&&ab6 z&&ck c .pk a z
        |_=>false)
      | .trng=>(match y with
        | .Call (.Name n2 _) [z] [] _=>ac6 c "tuple" n&&ac6 c "range" n2&&ab6 z&&ck c .pk a z
        |_=>false)
      |o=>(match u1n o with|some k=>ac6 c k n|none=>false)&&ab6 y&&ck c .pk a y)
    | .Call (.Attribute (.Name _ _) n apos) [] [] cpos=>o== .itm&&aL3 md&&n==("items":Str)&&(apos.endLine==cpos.line)&&(match x with| .Call (.Attribute y _ _) _ _ _=>ck c md.deep a y|_=>false)
    | .Call (.Name n _) [y,.Name t _] [] _=>(match a7w o with|some k=>ac6 c k t|none=>false)&&ac6 c "isinstance" n&&ab6 y&&ck c .pk a y
    |_=>false)
 |  md,.b o a b,x=>(match x with
    | .BinOp y op z _=>opn o op&&ck c .pk a y&&ck c .pk b z
    | .Compare y [op] [z] _=>aU0 o op&&az1 z&&ck c .pk a y&&ck c .pk b z
    | .Subscript y (.Slice (some z) none none _) _=>o== .from&&ck c .pk a y&&ck c .pk b z
    | .Subscript y (.Slice none (some z) none _) _=>o== .to&&ck c .pk a y&&ck c .pk b z
    | .Subscript y (.Slice none none (some z) _) _=>o== .step&&ck c .pk a y&&ck c .pk b z
    | .Subscript y z _=>o== .ix&&bP5 z&&ck c .pk a y&&ck c .pk b z
    | .Call (.Name n _) [.Call (.Name n2 _) [y,z] [] _] [] _=>o== .lrng2&&ac6 c "list" n&&ac6 c "range" n2&&ab6 y&&ab6 z&&ck c .pk a y&&ck c .pk b z
    | .Call (.Name n _) [y,z] [] _=>ab6 y&&ab6 z&&(match o with
      | .rng=>(match md with| .src _ _=>true|_=>false)&&ac6 c "range" n&&ck c .pk a y&&ck c .pk b z
      | .zip=>aL3 md&&ac6 c "zip" n&&ck c md.deep a y&&ck c md.deep b z
      | .max2=>ac6 c "max" n&&ck c .pk a y&&ck c .pk b z
      | .min2=>ac6 c "min" n&&ck c .pk a y&&ck c .pk b z
      | .mint2=>ac6 c "min" n&&ck c .str a y&&ck c .str b z
      |_=>false)
    |_=>false)
 |_,.cut ..,_=>false
 |_,.zip3 ..,_=>false
 |_,.get ..,_=>false
 |_,.idx ..,_=>false
 |  _,.plr i,x=>(match x with
    | .Name n _=>an3 c i n
    |_=>false)
 |_,.idt ..,_=>false
 |_,.pcl ..,_=>false
 |_,.obj ..,_=>false
 |_,.obd ..,_=>false
 |_,.sq ..,_=>false
 |_,.sd ..,_=>false
 |_,.sit ..,_=>false
 |_,.sl ..,_=>false
 |_,.att ..,_=>false
 |_,.top,_=>true
 |_,.dct0 ..,_=>false
 |_,.dct1 ..,_=>false
 |_,.tab ..,_=>false
 |  _,.fcl i es,x=>(match x with
    | .Call (.Name n _) (y::ys) [] _=>c.fcs&&an3 c i n&&ckL c es (y::ys)
    |_=>false)
 |_,.hof ..,_=>false
 |_,.skey ..,_=>false
 |_,.tm ..,_=>false
 |_,.up ..,_=>false
 |_,.si ..,_=>false
 |_,.tg ..,_=>false
 |_,.rpd ..,_=>false
 |_,.thunk ..,_=>false
 |  md,.and es,x=>(match x with
    | .BoolOp .And xs _=>ckB c md.sub es xs
    |_=>false)
 |  md,.or es,x=>(match x with
    | .BoolOp .Or xs _=>ckB c md.sub es xs
    |_=>false)
 |  md,.ite t a b,x=>(match md,x with
    | .tst,_=>false
    |_,.IfExp y z w _=>ck c .tst t y&&ck c .str a z&&ck c .str b w
    |_,_=>false)
 |  _,.chain o p a b d,x=>(match x with
    | .Compare y [op,op'] [z,w] _=>aU0 o op&&aU0 p op'&&az1 w&&ck c .pk a y&&ck c .pk b z&&ck c .pk d w
    |_=>false)
 |_,.chain3 ..,_=>false
 |  _,.call f es,x=>(match x with
    | .Call (.Name n _) xs [] _=>(match c.fns.lookup n with|some f'=>f==f'|none=>false)&&glB c n&&ckL c es xs
    |_=>false)
 |_,.sel ..,_=>false
 |  _,.comp g s t e,x=>(match x with
    | .ListComp elt [⟨tg,iter,ifs,0⟩] scope _=>(match tgB (c.blk scope) g tg with
      | some own=>blkC c.N c.sc scope own&&decide (own.map (·.2)=g.slots)&&az1 iter&&ck c (.src false tg) s iter&&ck (c.blk scope) .str e elt&&(match ifs with
        | []=>a2U t
        | [y]=>ck (c.blk scope) .tst t y
        |_=>false)
      |none=>false)
    |_=>false)
def ckL (c:Cfg):List E→List Expr→Bool
 | [],xs=>xs.isEmpty
 |  e::es,xs=>(match xs with
    | []=>false
    |x::r=>ab6 x&&ck c .str e x&&ckL c es r)
def ckB (c:Cfg)(md:Md):List E→List Expr→Bool
 | [],_=>false
 |  e::es,xs=>(match xs with
    | []=>false
    |x::r=>ck c md e x&&(match es,r with
     | [],[]=>true
     |_,_=>ckB c md es r))
end
end Fz
namespace Fz
open PySem PySem.Spec L2 PyProof.Rows
variable [aa0] [FnT]
section
variable {K:Fr'} {O:List Addr} {H:Hp} {a:Addr} {d:D} {p q:Addr→Prop}
theorem ad6.imp (h:ad6 K O H a d p)(f: ∀b,p b→q b):ad6 K O H a d q:=h.over (fun b u hb hO e _=>⟨f b hb,hO,e⟩) (Ex.refl _)
theorem ad6.mono {H':Hp}(h:ad6 K O H a d p)(e:Ex H H'):ad6 K O H' a d p:=h.over (fun b u hb hO q d=>⟨hb,hO,e.hid q d⟩) e.hide
theorem RS.ad2 {σ:L2.St}{τ:Sd}(r:RS K O H σ τ){i:Nat}(e:τ[i]? =some (some (Sv.sto d))): ∃a,σ[i]? =some (some (.ref a))∧FnT.sa a∧ad6 K O H a d (fun _=>True):=by
 obtain⟨ow,h1,_⟩:=r.sto
 obtain⟨a,h2,hs,h3⟩:=h1 i d e
 exact⟨a,h2,hs,h3.imp fun _ _=>trivial⟩
end
section
variable {X:Cx} {C:Nat→Addr} {W:WX}
theorem cn2 {pins:List (Addr×Obj)}{σ:L2.St}{H:Hp}{s:Shared}{a dx:Addr}{od:Obj}{fs:List (Str×V)}(I:Inv X pins σ H s)(h1:H a=some (setAt a (PySem.W.instObj aa0.sc dx)))(h2:H dx=some (setAt dx od))(h3:a2b od fs)(ne:dx≠a):
  ∃mA,ObjM s.heap a dx aa0.sc mA∧(∀f,RelO (fs.lookup f) (mA f))∧PySem.Within mA (fs.map (·.1)):=by
 obtain⟨mA,n,r,w⟩:=h3 s.heap dx (aj4 I h2)
 exact⟨mA,⟨aj4 I h1,n,ne⟩,r,w⟩
def spO (K:Fr')(C:Nat→Addr)(m:List D→R D):Sp:=fun vs H Q E=> ∃P a vs0 st ds,vs= .ref a::vs0∧ab3 H P∧ad6 K P H a st (fun _=>True)∧aa1 K (hide H P) vs0 ds∧LamX.Tabs aa0.T H∧(match m (st::ds)with
 | .ok d=> ∀v H',Same H H'→Rp K (hide H' P) v d→Q v H'
 | .ex c=> ∀H',Same (hide H P) H'→E (.ref (C c)) none H'
 | .no=>False)
def spI (K:Fr')(C:Nat→Addr)(m:List D→R D):Sp:=fun vs H Q E=> ∃P a vs0 st ds,vs= .ref a::vs0∧ab3 H P∧ad6 K P H a st (fun _=>True)∧aa1 K (hide H P) vs0 ds∧LamX.Tabs aa0.T H∧(match m (st::ds)with
 | .ok (.tuple [st',d])=> ∀v H' P',ab3 H' P'→(∀b∈P',b∈P∨Fr H b)→ad6 K P' H' a st' (fun _=>True)→Same (hide H P) (hide H' P')→Rp K (hide H' P') v d→Q v H'
 | .ex c=> ∀H',Same (hide H P) H'→E (.ref (C c)) none H'
 |_=>False)
def cn3 (K:Fr')(C:Nat→Addr)(m:List D→R D):Sp:=fun vs H Q E=> ∃P a st,vs=[.ref a]∧ab3 H P∧ad6 K P H a st (fun _=>True)∧LamX.Tabs aa0.T H∧(match m [st]with
 | .ok (.list xs)=> ∀l vs H',Same H H'→Fr H l→H' l=some (.lst vs)→aa1 K (hide H' (l::P)) vs xs→xs.length≤sizeLine→Q (.ref l) H'
 | .ex c=> ∀H',Same (hide H P) H'→E (.ref (C c)) none H'
 |_=>False)
def spN (K:Fr')(C:Nat→Addr)(m:List D→R D):Sp:=fun vs H Q E=> ∃a dx vs0 ds,vs= .ref a::vs0∧H a=some (.ins aa0.sc dx [])∧H dx=some (.own a)∧aa1 K (hide H [a,dx]) vs0 ds∧LamX.Tabs aa0.T H∧(match m ds with
 | .ok st=> ∀H' P,ab3 H' P→(∀b∈P,b=a∨b=dx∨Fr H b)→ad6 K P H' a st (fun _=>True)→Same (hide H [a,dx]) (hide H' P)→Q .non H'
 | .ex c=> ∀H',Same (hide H [a,dx]) H'→E (.ref (C c)) none H'
 | .no=>False)
def spC (K:Fr')(C:Nat→Addr)(m:List D→R D):Sp:=fun vs H Q E=> ∃P a st,vs=[.ref a]∧ab3 H P∧ad6 K P H a st (fun _=>True)∧LamX.Tabs aa0.T H∧(match m [st]with
 | .ok st'=> ∀b H' P',ab3 H' P'→(∀c∈P',Fr H c)→ad6 K (P'++P) H' b st' (fun c=>c∈P')→Same H H'→Q (.ref b) H'
 | .ex c=> ∀H',Same (hide H P) H'→E (.ref (C c)) none H'
 | .no=>False)
structure EqC (K:Fr'):Prop where
 cl:L2.Cls K aa0.sc
 ha:PySem.W.findIn K (.ref aa0.sc) "__class__"=some (some (.builtin "object.__class__"))
 hn:PySem.W.specialIn K (.builtin "object.__class__") "__get__"=some (some (.builtin "getset_descriptor.__get__"))
 ht:PySem.W.takesIn K (.builtin "object.__class__")=some true
 hm:PySem.W.mroIn K aa0.sc (.type "object")=some true
 me:PySem.W.kitOne K (.ref aa0.sc) (.ref aa0.sc)=some true
 nl:PySem.W.kitOne K (.type "list") (.ref aa0.sc)=some false
 nt:PySem.W.kitOne K (.type "tuple") (.ref aa0.sc)=some false
 ne:PySem.W.findIn K (.ref aa0.sc) "__ne__"=some (some (.builtin "object.__ne__"))
 fl:PySem.W.notFirst K aa0.sc (.type "list")=true
 ft:PySem.W.notFirst K aa0.sc (.type "tuple")=true
def cn5 (K:Fr')(C:Nat→Addr)(m:List D→R D):Sp:=fun vs H Q E=> ∃P a y st,vs=[.ref a,y]∧ab3 H P∧ad6 K P H a st (fun _=>True)∧LamX.Tabs aa0.T H∧
 ((∃b st2 k,y= .ref b∧ad6 K P H b st2 (fun _=>True)∧m [st,st2]= .ok (.bool k)∧ ∀H',Same H H'→Q (.bl k) H')∨(∃d,Rp K (hide H P) y d∧a7b d=true∧ ∀H',Same H H'→Q (.bl false) H'))
def cn6 (K:Fr')(C:Nat→Addr)(P:List Addr)(H:Hp)(a:Addr)(Q:VK)(E:XK):Nat→R D→Prop
 |0,.ok d=> ∀v H',Same H H'→Rp K (hide H' P) v d→Q v H'
 |1,.ok (.tuple [st',d])=> ∀v H' P',ab3 H' P'→(∀b∈P',b∈P∨Fr H b)→ad6 K P' H' a st' (fun _=>True)→Same (hide H P) (hide H' P')→Rp K (hide H' P') v d→Q v H'
 |2,.ok d=> ∀v H',Same (hide H P) H'→Rp K H' v d→Q v H'
 |_,.ex c=> ∀H',Same (hide H P) H'→E (.ref (C c)) none H'
 |_,_=>False
def spD (K:Fr')(C:Nat→Addr)(t p:Nat)(m:List D→R D):Sp:=fun vs H Q E=> ∃P a vs0 st ds,vs=vs0.take p++ .ref a::vs0.drop p∧p≤vs0.length∧ab3 H P∧ad6 K P H a st (fun _=>True)∧aa1 K (hide H P) vs0 ds∧LamX.Tabs aa0.T H∧cn6 K C P H a Q E t (m (st::ds))
def co0 (K:Fr')(C:Nat→Addr)(kind:Nat)(m:List D→R D):Sp:=match kind with
 |0=>spO K C m
 |1=>spI K C m
 |2=>cn3 K C m
 |3=>spN K C m
 |4=>spC K C m
 |8=>cn5 K C m
 |k=>spD K C ((k-10)%3) ((k-10)/3) m
def co1 (K:Fr')(mg:Str→Option Value)(kind:Nat)(x:Str)(f:Addr):Prop:=if kind=3 then Mk K aa0.sc f∧mg x=some (.ref aa0.sc)∧(x==("__debug__":Str))=false else if kind=8 then(Meth K aa0.sc x f∧a68 x=none)∧EqC K else if 10≤kind then mg x=some (.ref f)∧PySem.W.keepIn K (.ref f)=true∧(x==("__debug__":Str))=false else Meth K aa0.sc x f∧a68 x=none
def ObK (P:Program)(w:World)(K:Fr')(mg:Str→Option Value)(base:Heap)(C:Nat→Addr)(kind:Nat)(x:Str)(m:List D→R D)(k:Nat)(f:Addr)(fd:FuncData)(ps:List Str):Prop:=
 FnOk P w K mg base (L2.CX P w) k f fd ps (co0 K C kind m)∧co1 K mg kind x f∧L2.Cls K aa0.sc∧Binds K fd ps []
def ObT (X:Cx)(C:Nat→Addr)(kind:Nat)(x:Str)(m:List D→R D):Prop:= ∃k f fd ps,Room (k+1) X.A∧ObK X.prog X.w X.K X.mg X.base C kind x m k f fd ps
def ObG (P:Program)(w:World)(K:Fr')(mg:Str→Option Value)(base:Heap)(C:Nat→Addr)(lv kind:Nat)(x:Str)(m:List D→R D):Prop:= ∃k f fd ps,k+1≤lv∧ObK P w K mg base C kind x m k f fd ps
theorem ObG.up {P:Program}{w:World}{K:Fr'}{mg:Str→Option Value}{base:Heap}{lv lv' kind:Nat}{x:Str}{m:List D→R D}(h:ObG P w K mg base C lv kind x m)(e:lv≤lv'):ObG P w K mg base C lv' kind x m:=by
 obtain⟨k,f,fd,ps,hk,r⟩:=h
 exact⟨k,f,fd,ps,Nat.le_trans hk e,r⟩
end
end Fz
namespace Fz
open PySem PySem.Spec L2 PyProof.Rows
variable [aa0]
theorem EqC.fs (K:Fr'):PySem.W.notFirst K aa0.sc (.ref aa0.sc)=true:=by unfold PySem.W.notFirst;simp
section
variable [FnT] {X:Cx} {C:Nat→Addr} {W:WX} {pos:Pos}
theorem ad6.inst {K:Fr'}{O:List Addr}{H:Hp}{a:Addr}{d:D}{p:Addr→Prop}{pins:List (Addr×Obj)}{σ:L2.St}{s:Shared}(h:ad6 X.K O H a d p)(I:Inv X pins σ H s): ∃ox od,PySem.W.InstAt s.heap a ox aa0.sc (some od):=by
 obtain⟨dx,ka,la,ua,od,sv,sd,nx,kvs,ls,us,ds,es',ed,nd,hp,h1,h2,h3,h4,_⟩:=id h
 have ne:dx≠a:=fun e=>by
  subst e
  simp at nd
 obtain⟨mA,O1,r1,_⟩:=cn2 I h1 h2 h4 ne
 obtain⟨od,J,_⟩:=O1.look
 exact⟨_,_,J⟩
theorem ad6.state {K:Fr'}{O:List Addr}{H:Hp}{a:Addr}{d:D}{p:Addr→Prop}(h:ad6 K O H a d p): ∃dx od fs sv st,H a=some (setAt a (PySem.W.instObj aa0.sc dx))∧H dx=some (setAt dx od)∧a2b od fs∧dx≠a∧fs.lookup ("state":Str)=some sv∧Rp K (hide H O) sv st∧a66 0 d= .ok st:=by
 obtain⟨dx,ka,la,ua,od,sv,sd,nx,kvs,ls,us,ds,es',ed,nd,hp,h1,h2,h3,h4,h5,_⟩:=id h
 have ne:dx≠a:=fun e=>by
  subst e
  simp at nd
 exact⟨dx,od,_,sv,sd,h1,h2,h4,ne,rfl,h5,by rw[ed];rfl⟩
end
end Fz
namespace Fz
open PySem PySem.Spec L2 PyProof.Rows
variable [aa0] [FnT]
def TabG (K:Fr')(mg:Str→Option Value)(x:Str)(kvs:List (D×D)):Prop:= ∃a es n,mg x=some (.ref a)∧KDict K aa0.w a es n∧a5s K es.toList kvs=true
def aU1 (K:Fr')(mg:Str→Option Value)(x:Str)(d:D):Prop:=match d with
 | .dict kvs=>TabG K mg x kvs
 |d=> ∃v u,mg x=some u∧RelV v u∧ ∀H,Rp K H v d
theorem aU1.val {K:Fr'}{mg:Str→Option Value}{x:Str}{d:D}(h:aU1 K mg x d)(n: ∀kvs,d≠ .dict kvs): ∃v u,mg x=some u∧RelV v u∧ ∀H,Rp K H v d:=by
 cases d<;>first|exact absurd rfl (n _)|exact h
mutual
theorem bP7 {K:Fr'}: ∀(d:D) (u:Value),dvB K u d=true→ ∃v,RelV v u∧ ∀H,Rp K H v d
 | .none,u,h=>by
   cases u<;>simp[dvB]at h
   exact⟨.non,rfl,fun _=> .non⟩
 | .bool b,u,h=>by
   cases u<;>simp[dvB]at h
   subst h
   exact⟨.bl _,rfl,fun _=> .bl _⟩
 | .int i,u,h=>by
   cases u<;>simp[dvB]at h
   subst h
   exact⟨.int _,⟨_,rfl⟩,fun _=> .int _⟩
 | .str s,u,h=>by
   cases u<;>simp[dvB]at h
   obtain⟨⟨rfl,h1⟩,h2⟩:=h
   exact⟨.str _,⟨_,rfl⟩,fun _=> .str _ h1 h2⟩
 | .list ds,u,h=>by cases u<;>simp[dvB]at h
 | .dict ds,u,h=>by cases u<;>simp[dvB]at h
 | .tuple ds,u,h=>by
   cases u with
   |ref a=>
    unfold dvB at h
    split at h
    ·   rename_i c its n sl hl
        simp only[Bool.and_eq_true,decide_eq_true_eq]at h
        obtain⟨⟨rfl,h2⟩,h3⟩:=h
        obtain⟨vs,r1,r2⟩:=bP8 ds its.toList h3
        have n1:=r1.length
        have n2:vs.length=ds.length:=(r2 (fun _=>none)).length
        refine⟨.ref a,rfl,fun H=> .tup (.inr ⟨_,its,n,hl,rfl,rfl,rfl,h2,r1⟩) (r2 H) ?_⟩
        have:its.toList.length=its.size:=Array.length_toList
        omega
    ·cases h
   |_=>simp[dvB]at h
theorem bP8 {K:Fr'}: ∀(ds:List D) (us:List Value),aR0 K us ds=true→ ∃vs,Vals vs us∧ ∀H,aa1 K H vs ds
 | [],us,h=>by
   unfold aR0 at h
   have:us=[]:=by simpa using h
   subst this
   exact⟨[],.nil,fun _=> .nil⟩
 | d::ds,us,h=>by
   unfold aR0 at h
   cases us with
   |nil=>cases h
   |cons u us=>
    simp only[Bool.and_eq_true]at h
    obtain⟨v,r,p⟩:=bP7 d u h.1
    obtain⟨vs,rs,ps⟩:=bP8 ds us h.2
    exact⟨v::vs,.cons r rs,fun H=> .cons (p H) (ps H)⟩
end
end Fz
namespace Fz
open PySem PySem.Spec L2
variable [aa0] [FnT]
def Glo (X:Cx)(x:Str)(d:D):Prop:=aU1 X.K X.mg x d
def FnAt (X:Cx)(C:Nat→Addr)(lv:Nat)(x:Str)(m:List D→R D):Prop:= ∃k f fd ps,k≤lv∧FnOk X.prog X.w X.K X.mg X.base (L2.CX X.prog X.w) k f fd ps (spM X.K C m)∧X.mg x=some (.ref f)∧PySem.W.keepIn X.K (.ref f)=true∧Binds X.K fd ps []∧(x==("__debug__":Str))=false
def bQ0 (X:Cx)(x:Str)(m:List D→R D):Prop:= ∃lv g,Room (lv+2) X.A∧X.mg x=some (.ref g)∧PySem.W.keepIn X.K (.ref g)=true∧(x==("__debug__":Str))=false∧ag7 X.prog X.w X.K X.mg X.base lv ⟨g,fun _=>True,fun ds=>(m ds).calm⟩
structure Good (X:Cx)(c:Cfg)(C:Nat→Addr)(Φ:Nat→List D→R D)(W:WX):Prop where
 calm:X.calm=true
 nd:X.N.Nodup
 N:X.N=c.N
 sc:X.env.scope=c.sc
 sto: ∀x∈c.st,Loc X.env.scope x∧(X.fn x=true∨X.env.scope.names.lookup x=some .local)
 un:X.A.units+64<cLine
 free: ∀x∈bnl,X.mg x=none
 fns: ∀x f,c.fns.lookup x=some f→Fn X C x (Φ f)
 glo: ∀x d,c.glo.lookup x=some d→Glo X x d
 tk:Takes X W
 pw:PWr X
 lam:c.thk≠[]→ ∃lv,Room (lv+2) X.A∧(∀x f,c.fns.lookup x=some f→FnAt X C lv x (Φ f))∧ ∀x f,c.thk.lookup x=some f→cf7 X C x (Φ f)
 hof: ∀id h,c.hof.lookup id=some h→a2T X h (Φ id)
 fcl:c.fcs=true→ ∃lv,Room lv X.A∧ ∀(g:Nat) (H:Hp),FnT.ok g H→ag7 X.prog X.w X.K X.mg X.base lv ⟨FnT.fa g,FnT.ok g,Φ g⟩
 frs: ∀x f,c.frs.lookup x=some f→bM9 X C x (Φ f)
 srt: ∀x f,c.srt.lookup x=some f→bQ0 X x (Φ f)
 pls: ∀x f,c.pls.lookup x=some f→cd0 X C x (Φ f)
 obj:c.obs≠[]→L2.Cls X.K aa0.sc∧ ∀f k,a68 f=some k→NoAttr X.K aa0.sc f
 mts: ∀p∈c.obs,ObT X C p.1 p.2.1 (Φ p.2.2)∧(3≤p.1∧p.1<8→ ∀a,FnT.sa a)
theorem bQ1 (p:Str→Bool): ∀(names:List (Str×NameKind)) (x:Str) (k:NameKind),k≠ .free→names.lookup x=some k→
  (names.map fun(q:Str×NameKind)=>if(q.2== .free&&p q.1)then(q.1,NameKind.cell)else(q.1,q.2)).lookup x=some k
 | [],x,k,_,h=>by simp at h
 |(n,m)::r,x,k,hk,h=>by
  simp only[List.map_cons]
  rw[List.lookup_cons]at h
  by_cases e:(x==n)=true
  ·rw[e]at h
   simp only[Option.some.injEq]at h
   subst h
   have:(m==NameKind.free)=false:=by cases m<;>first|rfl|exact absurd rfl hk
   simp only[this,Bool.false_and,Bool.false_eq_true,if_false]
   rw[List.lookup_cons,e]
  ·have e:(x==n)=false:=by simpa using e
   rw[e]at h
   split<;>(rw[List.lookup_cons,e];exact bQ1 p r x k hk h)
theorem bQ2 {scope sc:Scope}{x:Str}{k:NameKind}(hk:k≠ .free)(h:scope.names.lookup x=some k):(relS scope sc).names.lookup x=some k:=by
 unfold relS
 have:=bQ1 (fun n=>sc.kind== .function&&sc.names.lookup n==some .cell) scope.names x k hk h
 simp only[←Bool.and_assoc]at this
 exact this
section
variable {X:Cx} {c:Cfg} {C:Nat→Addr} {Φ:Nat→List D→R D} {W:WX}
theorem Good.blk (g:Good X c C Φ W){scope:Scope}{own:List (Str×Nat)}(ok:BlkOk X.N X.env.scope scope own)(s:Shared)(H:Hp)(Cc:Addr)(cl:List (Str×Addr))(fp:List Addr):
  Good (X.blk s H scope (compEnvC scope cl Cc X.env) fp) (c.blk scope) C Φ W0 where
 calm:=g.calm
 nd:=g.nd
 N:=g.N
 sc:=by
  show relabel scope X.env=relS scope c.sc
  rw[←g.sc];rfl
 sto:=fun x hx=>by
  show Loc (relS scope X.env.scope) x∧_
  obtain⟨p,hp,rfl⟩:=List.mem_map.mp hx
  obtain⟨hp1,hp2⟩:=List.mem_filter.mp hp
  have hl:=ok.uniq p hp1
  have hk:p.2= .local∨p.2= .cell:=by simpa using hp2
  rcases hk with hk|hk
  · rw[hk]at hl
    have:=bQ2 (sc:=X.env.scope) (by decide) hl
    exact⟨.inl this,.inr this⟩
  · rw[hk]at hl
    have:=bQ2 (sc:=X.env.scope) (by decide) hl
    exact⟨.inr this,.inl (by show(scope.names.lookup p.1==some .cell)=true;rw[hl];rfl)⟩
 un:=g.un
 free:=g.free
 fns:=g.fns
 glo:=g.glo
 tk:=takes0
 pw:=g.pw
 lam:=fun h=>absurd rfl h
 hof:=fun _ _ h=>by cases h
 fcl:=g.fcl
 frs:=fun _ _ h=>by cases h
 srt:=fun _ _ h=>by cases h
 pls:=fun _ _ h=>by cases h
 obj:=g.obj
 mts:=g.mts
theorem Good.bR2 (g:Good X c C Φ W){lv:Nat}(hf: ∀x f,c.fns.lookup x=some f→FnAt X C lv x (Φ f)){A:Around}{outer:List Env}{s:Shared}{H:Hp}{E:XK}{scope:Scope}{f c':Addr}(hr:Room lv (A.deeper (LamX.lamEnv X scope s.heap.objs.size f c'))):
  Good (LamX.lamCx X A outer s H E scope f c') (c.lam scope) C Φ (WE' E) where
 calm:=rfl
 nd:=g.nd
 N:=g.N
 sc:=rfl
 sto:=fun x h=>by cases h
 un:=hr.units
 free:=g.free
 fns:=fun x k hl=>by
  obtain⟨j,a,fd,ps,hj,h1,h2,h3,h4,h5⟩:=hf x k hl
  exact⟨j,a,fd,ps,h1,hr.mono hj,h2,h3,h4,h5⟩
 glo:=g.glo
 tk:=takes_of rfl rfl rfl rfl
 pw:=g.pw
 lam:=fun h=>absurd rfl h
 hof:=fun _ _ h=>by cases h
 fcl:=fun h=>by cases h
 frs:=fun _ _ h=>by cases h
 srt:=fun _ _ h=>by cases h
 pls:=fun _ _ h=>by cases h
 obj:=fun h=>absurd rfl h
 mts:=fun _ h=>by cases h
def Snd (X:Cx)(C:Nat→Addr)(Φ:Nat→List D→R D)(W:WX)(e:E)(x:Expr):Md→Prop
 | .str=>PEx X C W true x (ev Φ e)
 | .pk=>PEx X C W false x (ev Φ e)
 | .tst=>PTx X C W x (fun τ=>(ev Φ e τ).bind asB)
 | .src m tg=>PIx X C W m tg x (fun τ=>(ev Φ e τ).bind fun d=>ofO (itemsOf d))
def ac7 (C:Nat→Addr)(Φ:Nat→List D→R D)(e:E):Prop:= ∀ {X:Cx} {c:Cfg} {W:WX},Good X c C Φ W→ ∀(md:Md) (x:Expr),ck c md e x=true→Snd X C Φ W e x md
def ao1 (C:Nat→Addr)(Φ:Nat→List D→R D)(es:List E):Prop:= ∀e∈es,ac7 C Φ e
theorem bR4 {x:Expr}{env:Env}(h:plainT x=true): ∀whole,isTrue x env whole=(do let v←whole;standAt x.pos;holding [v] (truthy v)):=by
 intro whole
 cases x<;>first|rfl|(cases h)
theorem ad4 {e:E}{x:Expr}{md:Md}(h: ∀m,PEx X C W m x (ev Φ e))(hp:plB md x=true):Snd X C Φ W e x md:=by
 cases md with
 |str=>exact h true
 |pk=>exact h false
 |tst=>exact b88 (h true) (bR4 hp)
 |src m tg=>exact bG5 (h m)
theorem ab0 {x:Expr}{es:List Expr}{env:Env}(h:ab6 x=true):starEach (x::es) env=(false,eval x env)::starEach es env:=by
 cases x<;>first|rfl|(cases h)
theorem a7x {x:Expr}{op:CmpOp}(h:az1 x=true):behindInMarks op x=false:=by
 cases x<;>first|rfl|(cases h)
theorem aU2 {x:Expr}{env:Env}(h:az1 x=true): ∀v,foldedSetIterable x env v=pure v:=by
 intro v
 cases x<;>first|rfl|(cases h)
theorem co2 {x:Expr}(h:bP5 x=true):PlainIx x:=by
 intro o i
 cases x<;>first|rfl|(cases h)
theorem co3 (g:Good X c C Φ W){x:Str}(h:a7u c x=true):Vis X.env.scope x:=by
 unfold a7u at h
 rw[←g.sc]at h
 unfold Vis
 split at h
 ·rename_i e;exact .inl e
 ·rename_i e;exact .inr (.inl e)
 ·rename_i e;exact .inr (.inr e)
 ·cases h
theorem az2 (g:Good X c C Φ W){x:Str}(h:glB c x=true):Gl X x:=by
 unfold glB at h
 rw[←g.sc]at h
 split at h
 ·rename_i e;exact e
 ·cases h
theorem a7z {x:Str}(h:nmB x=true):(x==("__debug__":Str))=false∧(x==("__classdict__":Str))=false∧x≠"__name__":=by
 unfold nmB at h
 simp only[Bool.and_eq_true,Bool.not_eq_true']at h
 exact⟨h.1.1,h.1.2,fun e=>by rw[e]at h;simp at h⟩
theorem ad0 (g:Good X c C Φ W){k x:Str}(h:ac6 c k x=true):x=k∧Gl X x:=by
 unfold ac6 at h
 simp only[Bool.and_eq_true,beq_iff_eq]at h
 exact⟨h.1,az2 g h.2⟩
theorem slot_of (g:Good X c C Φ W){i:Nat}{x:Str}(h:an3 c i x=true):X.N[i]? =some x∧Vis X.env.scope x∧(x==("__debug__":Str))=false∧(x==("__classdict__":Str))=false:=by
 unfold an3 at h
 simp only[Bool.and_eq_true,decide_eq_true_eq]at h
 exact⟨by rw[g.N];exact h.1.1,co3 g h.1.2,(a7z h.2).1,(a7z h.2).2.1⟩
theorem co4 (i:Nat):ac7 C Φ (.var i):=by
 intro X c W g md x h
 unfold ck at h
 split at h
 ·obtain⟨h1,h2,h3,h4⟩:=slot_of g h
  refine ad4 (fun m=> ?_) (by cases md<;>rfl)
  have:=b8W (C:=C) (W:=W) (m:=m) (pos:=by assumption) h1 h2 h3 h4
  exact this
 ·cases h
theorem co5 (d:D):ac7 C Φ (.cst d):=by
 intro X c W g md x h
 unfold ck at h
 unfold bP6 at h
 split at h
 ·cases aL1 _ _ h
  exact ad4 (fun m=>aS9 pe_int fun H=> .int _) (by cases md<;>rfl)
 ·cases aL1 _ _ h
  exact ad4 (fun m=>aS9 pe_bl fun H=> .bl _) (by cases md<;>rfl)
 ·cases aL1 _ _ h
  exact ad4 (fun m=>aS9 pe_non fun H=> .non) (by cases md<;>rfl)
 ·simp only[Bool.and_eq_true,decide_eq_true_eq]at h
  cases aL1 _ _ h.1.1
  exact ad4 (fun m=>aS9 pe_str fun H=> .str _ h.1.2 h.2) (by cases md<;>rfl)
 ·simp only[Bool.and_eq_true]at h
  obtain⟨⟨h1,h2⟩,h3⟩:=h
  split at h3
  ·rename_i d' hd
   have ed:=aL1 _ _ h3
   subst ed
   obtain⟨v,u,hm,hr,hp⟩:=aU1.val (g.glo _ _ hd) (fun kvs e=>by rw[e]at h3;simp[eqD]at h3)
   exact ad4 (fun m=>aS9 (pe_glob (az2 g h1) hm hr (a7z h2).1) hp) (by cases md<;>rfl)
  ·cases h3
 ·cases h
theorem az4 {es:List E}(ih:ao1 C Φ es)(g:Good X c C Φ W): ∀ {xs:List Expr},ckL c es xs=true→PAx X C W xs (evs Φ es)∧xs.length=es.length∧(∀x∈xs,ab6 x=true):=by
 induction es with
 |nil=>
  intro xs h
  unfold ckL at h
  have:xs=[]:=by simpa using h
  subst this
  exact⟨b9u,rfl,fun _ h=>by cases h⟩
 |cons e es ih2=>
  intro xs h
  unfold ckL at h
  split at h
  ·cases h
  ·rename_i x r
   simp only[Bool.and_eq_true]at h
   obtain⟨⟨h1,h2⟩,h3⟩:=h
   obtain⟨q1,q2,q3⟩:=ih2 (fun e he=>ih e (List.mem_cons_of_mem _ he)) h3
   have p:PEx X C W true x (ev Φ e):=ih e List.mem_cons_self g .str x h2
   refine⟨?_,by simp[q2],fun y hy=> ?_⟩
   ·    have:=b9w p q1 (ab0 h1)
        exact this
   ·    rcases List.mem_cons.mp hy with rfl|hy
        ·exact h1
        ·exact q3 y hy
theorem aU3: ∀ {es:List E} {τ:Sd} {ds:List D},evs Φ es τ= .ok ds→ds.length=es.length
 | [],τ,ds,h=>by simp only[evs]at h;cases h;rfl
 |e::es,τ,ds,h=>by
  simp only[evs]at h
  cases h1:ev Φ e τ with
  |ok d=>
   rw[h1]at h
   simp only[R.ai6]at h
   cases h2:evs Φ es τ with
   |ok r=>rw[h2]at h;cases h;simp[aU3 h2]
   |ex c=>rw[h2]at h;cases h
   |no=>rw[h2]at h;cases h
  |ex c=>rw[h1]at h;cases h
  |no=>rw[h1]at h;cases h
theorem co6 {es:List E}(ih:ao1 C Φ es):ac7 C Φ (.tup es):=by
 intro X c W g md x h
 unfold ck at h
 split at h
 ·simp only[Bool.and_eq_true,decide_eq_true_eq]at h
  obtain⟨p,hl,_⟩:=az4 ih g h.2
  refine ad4 (fun m=> ?_) (by cases md<;>rfl)
  have:=b9y (m:=m) (pos:=by assumption) (x1:=by assumption) p h.1 (fun τ ds hd=>by rw[aU3 hd,hl])
  exact this
 ·cases h
theorem co7 {es:List E}(ih:ao1 C Φ es):ac7 C Φ (.lst es):=by
 intro X c W g md x h
 unfold ck at h
 split at h
 ·simp only[Bool.and_eq_true,decide_eq_true_eq]at h
  obtain⟨p,hl,_⟩:=az4 ih g h.2
  refine ad4 (fun m=> ?_) (by cases md<;>rfl)
  have:=a6L (m:=m) (a6M (pos:=by assumption) p h.1 (fun τ ds hd=>by rw[aU3 hd,hl]))
  exact this
 ·cases h
theorem aw5 {α:Type}(o:Option α)(c:Nat):ofO o≠ .ex c:=by cases o<;>(intro h;cases h)
theorem aL4 {α β:Type}{r:R α}{f:α→R β}{c:Nat}(h1: ∀c,r≠ .ex c)(h2: ∀a c,f a≠ .ex c):r.bind f≠ .ex c:=by
 cases r with
 |ok a=>exact h2 a c
 |ex c=>exact absurd rfl (h1 c)
 |no=>intro h;cases h
theorem a2W {α:Type}{p:Prop}[Decidable p]{a:α}{c:Nat}:(if p then R.ok a else R.no)≠ .ex c:=by split<;>(intro h;cases h)
theorem a7A {α:Type}{p:Prop}[Decidable p]{r:R α}{c:Nat}(h:r≠ .ex c):(if p then r else R.no)≠ .ex c:=by
 split
 ·exact h
 ·intro h;cases h
theorem ao2 (o:U)(d:D)(c:Nat):o1 o d≠ .ex c:=by
 unfold o1
 split<;>first
  |exact a2W
  |exact aL4 (fun c=>aw5 _ c) (fun a c h=>by cases h)
  |exact aL4 (fun c=>aw5 _ c) (fun a c=>aL4 (fun c=>aw5 _ c) (fun a c h=>by cases h))
  |(unfold aE3;exact a2W)
  |exact a7A (aw5 _ c)
  |(intro h;cases h)
theorem az5 (o:B)(x y:D)(c:Nat):o2 o x y≠ .ex c:=by
 unfold o2
 split<;>first
  |exact a2W
  |exact a7A (aw5 _ c)
  |exact aw5 _ c
  |exact aL4 (fun c=>aw5 _ c) (fun a c h=>by cases h)
  |exact aL4 (fun c=>aw5 _ c) (fun a c=>aL4 (fun c=>aw5 _ c) (fun a c h=>by cases h))
  |exact bN0 _ _ _ c
  |(refine a7A ?_;exact a2W)
  |(intro h;split at h<;>first|(cases h;done)|(split at h<;>cases h))
  |(intro h;cases h)
theorem aL6 {e:E}{x:Expr}{md:Md}(h:md≠ .tst→ ∀m,PEx X C W m x (ev Φ e))(ht:md= .tst→PTx X C W x (fun τ=>(ev Φ e τ).bind asB)):Snd X C Φ W e x md:=by
 cases md with
 |str=>exact h (by intro h;cases h) true
 |pk=>exact h (by intro h;cases h) false
 |tst=>exact ht rfl
 |src m tg=>exact bG5 (h (by intro h;cases h) m)
variable {a b:E}
theorem a3c {md:Md}{e:E}{x:Expr}(ih:ac7 C Φ e)(g:Good X c C Φ W)(h:ck c md.deep e x=true): ∀m tg,md= .src m tg→PEx X C W m x (ev Φ e):=by
 intro m tg e'
 subst e'
 cases m
 ·exact ih g .pk x h
 ·exact ih g .str x h
theorem co8 (g:Good X c C Φ W){o:U}{k n:Str}{y:Expr}{p pos:Pos}{m:Bool}(hk:u1n o=some k)(hb:ac6 c k n=true)(hs:ab6 y=true)(ha:PEx X C W false y (ev Φ a)):PEx X C W m (.Call (.Name n p) [y] [] pos) (ev Φ (.u o a)):=by
 obtain⟨rfl,hg⟩:=ad0 g hb
 have fr: ∀ {k:Str},k∈bnl→X.mg k=none:=fun {k} h=>g.free k h
 cases o<;>simp only[u1n,Option.some.injEq,reduceCtorEq]at hk<;>subst hk
 ·exact ay9 b8i (ao2 _) hg (fr (by decide+kernel)) (by decide+kernel) ha (ab0 hs)
 ·exact ay9 (b8k g.calm) (ao2 _) hg (fr (by decide+kernel)) (by decide+kernel) ha (ab0 hs)
 ·exact ay9 (b8l g.calm) (ao2 _) hg (fr (by decide+kernel)) (by decide+kernel) ha (ab0 hs)
 ·exact ay9 (b8m g.calm) (ao2 _) hg (fr (by decide+kernel)) (by decide+kernel) ha (ab0 hs)
 ·exact a2s int_ok (ao2 _) hg (fr (by decide+kernel)) (by decide+kernel) ha (ab0 hs)
 ·exact a2s (b8p g.calm) (ao2 _) hg (fr (by decide+kernel)) (by decide+kernel) ha (ab0 hs)
 ·exact a2s b8r (ao2 _) hg (fr (by decide+kernel)) (by decide+kernel) ha (ab0 hs)
 ·exact ay9 (b8E g.calm g.un) (ao2 _) hg (fr (by decide+kernel)) (by decide+kernel) ha (ab0 hs)
 ·exact ay9 (b8n g.calm) (ao2 _) hg (fr (by decide+kernel)) (by decide+kernel) ha (ab0 hs)
 ·exact ay9 (b8o g.calm) (ao2 _) hg (fr (by decide+kernel)) (by decide+kernel) ha (ab0 hs)
 ·exact ay9 (ci7 g.calm g.un) (ao2 _) hg (fr (by decide+kernel)) (by decide+kernel) ha (ab0 hs)
 ·exact a2s (b8q g.calm) (ao2 _) hg (fr (by decide+kernel)) (by decide+kernel) ha (ab0 hs)
theorem co9 (g:Good X c C Φ W){o:U}{k n t:Str}{y:Expr}{p p2 pos:Pos}{m:Bool}(hk:a7w o=some k)(hb2:ac6 c k t=true)(hb:ac6 c "isinstance" n=true)(hs:ab6 y=true)(ha:PEx X C W false y (ev Φ a)):PEx X C W m (.Call (.Name n p) [y,.Name t p2] [] pos) (ev Φ (.u o a)):=by
 obtain⟨rfl,hg⟩:=ad0 g hb
 obtain⟨rfl,hg2⟩:=ad0 g hb2
 have fr: ∀ {k:Str},k∈bnl→X.mg k=none:=fun {k} h=>g.free k h
 cases o<;>simp only[a7w,Option.some.injEq,reduceCtorEq]at hk<;>subst hk
 ·exact aT8 b8u (fun d hd=>by cases d<;>first|rfl|exact absurd rfl (hd _)) (fun _=>rfl) hg (fr (by decide+kernel)) hg2 (fr (by decide+kernel)) (by decide+kernel) ha (ab0 hs) (by decide) (by decide)
 ·exact aT8 b8z (fun d hd=>by cases d<;>first|rfl|exact absurd rfl (hd _)) (fun _=>rfl) hg (fr (by decide+kernel)) hg2 (fr (by decide+kernel)) (by decide+kernel) ha (ab0 hs) (by decide) (by decide)
 ·exact aT8 b8A (fun d hd=>by cases d<;>first|rfl|exact absurd rfl (hd _)) (fun _=>rfl) hg (fr (by decide+kernel)) hg2 (fr (by decide+kernel)) (by decide+kernel) ha (ab0 hs) (by decide) (by decide)
 ·exact aT8 b8x (fun d hd=>by cases d<;>first|rfl|exact absurd rfl (hd _)) (fun _=>rfl) hg (fr (by decide+kernel)) hg2 (fr (by decide+kernel)) (by decide+kernel) ha (ab0 hs) (by decide) (by decide)
 ·exact aT8 b8y (fun d hd=>by cases d<;>first|rfl|exact absurd rfl (hd _)) (fun _=>rfl) hg (fr (by decide+kernel)) hg2 (fr (by decide+kernel)) (by decide+kernel) ha (ab0 hs) (by decide) (by decide)
end
end Fz
namespace Fz
open PySem PySem.Spec PyProof.Rows L2
variable [aa0] [FnT]
inductive ac3 (K:Fr')(H:Hp):List (Key×Value)→List (D×D)→Prop
 |nil:ac3 K H [] []
 |cons {k:Key} {u:Value} {v:V} {d:D} {ys:List (Key×Value)} {kvs:List (D×D)}:Rp K H (kV k) (kD k)→RelV v u→Rp K H v d→ac3 K H ys kvs→ac3 K H ((k,u)::ys) ((kD k,d)::kvs)
section
variable {K:Fr'} {H H':Hp}
theorem ac3.mono (e:Ex H H'){xs:List (Key×Value)}{kvs:List (D×D)}(h:ac3 K H xs kvs):ac3 K H' xs kvs:=by
 induction h with
 |nil=>exact .nil
 |cons a b c _ ih=>exact .cons (a.mono e) b (c.mono e) ih
theorem ac3.length {xs:List (Key×Value)}{kvs:List (D×D)}(h:ac3 K H xs kvs):xs.length=kvs.length:=by
 induction h with
 |nil=>rfl
 |cons _ _ _ _ ih=>simp[ih]
theorem ac3.keys {xs:List (Key×Value)}{kvs:List (D×D)}(h:ac3 K H xs kvs):xs.map (fun x=>kD x.1)=kvs.map (·.1):=by
 induction h with
 |nil=>rfl
 |cons _ _ _ _ ih=>simp[ih]
theorem ac3.rk {xs:List (Key×Value)}{kvs:List (D×D)}(h:ac3 K H xs kvs):aa1 K H (xs.map fun x=>kV x.1) (kvs.map (·.1)):=by
 induction h with
 |nil=>exact .nil
 |cons a _ _ _ ih=>exact .cons a ih
theorem ac3.vals {xs:List (Key×Value)}{kvs:List (D×D)}(h:ac3 K H xs kvs): ∃vs,Vals vs (xs.map (·.2))∧aa1 K H vs (kvs.map (·.2)):=by
 induction h with
 |nil=>exact⟨[],.nil,.nil⟩
 |cons _ b c _ ih=>
  obtain⟨vs,h1,h2⟩:=ih
  exact⟨_::vs,.cons b h1,.cons c h2⟩
theorem ac3.append {xs ys:List (Key×Value)}{kvs kws:List (D×D)}(h:ac3 K H xs kvs)(h2:ac3 K H ys kws):ac3 K H (xs++ys) (kvs++kws):=by
 induction h with
 |nil=>exact h2
 |cons a b c _ ih=>exact .cons a b c ih
theorem ac3.over {k:Key}{u:Value}{v:V}{d:D}(b:RelV v u)(c:Rp K H v d){xs:List (Key×Value)}{kvs:List (D×D)}(h:ac3 K H xs kvs):
   ac3 K H (xs.map fun kv=>if kv.1=k then(kv.1,u)else kv) (kvs.map fun p=>if PyData.eqv p.1 (kD k)=true then(p.1,d)else p):=by
 induction h with
 |nil=>exact .nil
 | @cons k' u' v' d' ys' kvs' a' b' c' _ ih=>
   simp only[List.map_cons,aS8,decide_eq_true_eq]at ih ⊢
   by_cases e:k'=k
   ·simp only[if_pos e]
    exact .cons a' b c ih
   ·simp only[if_neg e]
    exact .cons a' b' c' ih
theorem ac3.has {k:Key}{xs:List (Key×Value)}{kvs:List (D×D)}(h:ac3 K H xs kvs):ag5 kvs (kD k)=xs.any fun kv=>kv.1=k:=by
 induction h with
 |nil=>rfl
 |cons _ _ _ _ ih=>
  unfold ag5 at ih ⊢
  rw[List.any_cons,List.any_cons,ih,aS8]
theorem ac3.put {k:Key}{u:Value}{v:V}{d:D}(a:Rp K H (kV k) (kD k))(b:RelV v u)(c:Rp K H v d){xs:List (Key×Value)}{kvs:List (D×D)}(h:ac3 K H xs kvs):ac3 K H (stored xs k u) (ai9 kvs (kD k) d):=by
 unfold stored ai9
 rw[h.has]
 split
 ·exact h.over b c
 ·exact h.append (.cons a b c .nil)
theorem ac3.all {ys:List (Key×Value)}{kvs:List (D×D)}(h:ac3 K H ys kvs): ∀ {xs:List (Key×Value)} {acc:List (D×D)},ac3 K H xs acc→ac3 K H (merged xs ys) (kvs.foldl (fun acc p=>ai9 acc p.1 p.2) acc):=by
 induction h with
 |nil=>exact fun h=>h
 |cons a b c _ ih=>exact fun h=>ih (h.put a b c)
end
section
variable {X:Cx} {pins:List (Addr×Obj)} {σ:L2.St} {H:Hp} {s:Shared} {O:List Addr}
theorem cp0 {k:Key}{v:V}{u:Value}(r:Rp X.K H v (kD k))(h:RelV v u):v=kV k∧(mixKind X.prog X.w).is k u=true:=by
 cases k with
 |inl i=>
  obtain rfl:=r.a6k
  obtain⟨t,rfl⟩:=h
  exact⟨rfl,mixKind_int _ _ _ _⟩
 |inr x=>
  obtain⟨rfl,_⟩:=r.a1V
  obtain⟨t,rfl⟩:=h
  exact⟨rfl,mixKind_str _ _ _ _⟩
theorem bR5 (I     :Inv X pins σ H s): ∀ {ds:List D} {vs:List V} {its:List Value} {kvs:List (D×D)},aa1 X.K (hide H O) vs ds→Vals vs its→aq8 ds=some kvs→
   ∃(Ts:List Addr) (ps:List (Value×Value)) (ys:List (Key×Value)),its=Ts.map Value.ref∧Ts.length=ps.length∧ps.length=ds.length∧(∀(j:Nat) (T:Addr) (y:Value×Value),Ts[j]? =some T→ps[j]? =some y→s.heap.IsTuple T #[y.1,y.2])∧
    (∀(j:Nat) (y:Value×Value),ps[j]? =some y→ ∃k,ys[j]? =some (k,y.2)∧(mixKind X.prog X.w).is k y.1=true)∧ys.length=ps.length∧ac3 X.K (hide H O) ys kvs
 | [],_,_,_,.nil,.nil,h=>by
   cases h
   exact⟨[],[],[],rfl,rfl,rfl,fun j T y h=>by simp at h,fun j y h=>by simp at h,rfl,.nil⟩
 | d::ds,_,    _,kvs,.cons r rs,.cons rv rvs,h=>by
   unfold aq8 at h
   split at h
   ·simp_all
   ·rename_i k v t e
    simp only[List.cons.injEq]at e
    obtain⟨rfl,rfl⟩:=e
    split at h
    ·   rename_i hk
        obtain⟨kvs',e1,rfl⟩:=Option.map_eq_some_iff.mp h
        obtain⟨Ts,ps,ys,g1,g2,g3,g4,g5,g6,g7⟩:=bR5 I rs rvs e1
        obtain⟨k,rfl⟩:=a6w hk
        cases r with
        |tup q rr z=>
         cases rr with
         |cons rk rr=>
          cases rr with
          |  cons rv' rr=>
             cases rr
             rename_i a v1 v2
             cases rv
             obtain⟨its2,w1,w2,_⟩:=I.tuple (af0 aa9 q.t)
             cases w1 with
             | cons w3 w4=>
               cases w4 with
               |cons w5 w6=>
                cases w6
                rename_i u1 u2
                obtain⟨rfl,hk2⟩:=cp0 (X:=X) rk w3
                refine⟨a::Ts,(u1,u2)::ps,(k,u2)::ys,by rw[g1];rfl,by simp[g2],by simp[g3],fun j T y h1 h2=> ?_,fun j y h1=> ?_,by simp[g6],.cons rk w5 rv' g7⟩
                · cases j with
                  |zero=>
                   have h1:a=T:=by simpa using h1
                   have h2:(u1,u2)=y:=by simpa using h2
                   subst h1 h2
                   exact w2
                  |succ j=>exact g4 j T y (by simpa using h1) (by simpa using h2)
                · cases j with
                  |zero=>
                   have h1:(u1,u2)=y:=by simpa using h1
                   subst h1
                   exact⟨k,rfl,hk2⟩
                  |succ j=>exact g5 j y (by simpa using h1)
    ·cases h
   ·cases h
end
theorem cp3 [aa0]{K:Fr'}{H:Hp}{a:Addr}{o:Obj}{xs:List (Key×Value)}{kvs:List (D×D)}(q:H a=some (setAt a o))(ns:(a==sysModules)=false)(raw:ak8 o xs)(en:ac3 K H xs kvs)(sz:kvs.length≤sizeLine):Rp K H (.ref a) (.dict kvs):=by
 obtain⟨vs,hv,rv⟩:=en.vals
 cases xs with
 |nil=>
  cases en
  cases hv
  exact .dct (vs:=[]) q ns (a6o raw) rfl rfl .nil .nil .nil sz
 |cons x r=>exact .dcti q ns raw en.keys (by simp) en.rk hv rv sz
section
variable {X:Cx} {C:Nat→Addr} {W:WX} {a:Expr} {ra:Sd→R D} {p pos:Pos}
theorem bR6 {X:Cx}{pins:List (Addr×Obj)}{σ:L2.St}{H1:Hp}{s1:Shared}{O:List Addr}{C:Nat→Addr}{W:WX}{m:Bool}{Q:VK}{T:String}{l:Addr}{ws:List V}{ds:List D}{kvs:List (D×D)}{its:List Value}(pw:PWr X)(hc:X.calm=true)
  (P: ∀(Ts:Nat→Addr) (ps:List (Value×Value)),PairArg X.prog X.w T l (l::(List.range ps.length).map Ts) [] ps.length (PairRel ps) (fun h=>PlainSeq T h l its.toArray∧PairItems h its.toArray Ts ps))
  (I1:Inv X pins σ H1 s1) (L:ab3 H1 O) (rl:aa1 X.K (hide H1 O) ws ds) (rv:Vals ws its) (pl:PlainSeq T s1.heap l its.toArray) (z1:ds.length≤sizeLine) (hp:aq8 ds=some kvs) (q1:Ans C W O H1 σ (rM X.K m O) Q ((R.ok (.dict (aj0 kvs)):R D))):
  wpAny (model X.prog X.w) X.A (call (.type "dict") [.ref l]) (EP X pins σ Q) X.xe s1:=by
 obtain⟨Ts,ps,ys,g1,g2,g3,g4,g5,g6,g7⟩:=bR5 I1 rl rv hp
 have hpi:PairItems s1.heap its.toArray (fun j=>Ts.getD j 0) ps:=by
  refine⟨by simp[g1,g2],fun j k v h=> ?_⟩
  have hj:j<Ts.length:=by
   have:=(List.getElem?_eq_some_iff.mp h).1
   omega
  have hT:Ts[j]? =some (Ts.getD j 0):=by
   rw[List.getD_eq_getElem?_getD,List.getElem?_eq_getElem hj];rfl
  refine⟨?_,.inl (g4 j _ (k,v) hT h)⟩
  rw[g1,List.getElem?_toArray,List.getElem?_map,hT]
  rfl
 refine PySem.call_dict_pairs (knd:=mixKind X.prog X.w) (kvs:=ys) (P (fun j=>Ts.getD j 0) ps) (I1.ok.hd hc) ⟨pl,hpi⟩ ⟨by simp[g6],fun i key u hr=>g5 i (key,u) hr⟩ (by omega) fun h2 tk hd hk2=> ?_
 have old: ∀b ob,s1.heap.get? b=some ob→h2.get? b=some ob:=fun b ob e=>hk2 b ob (by simp) e
 have hn:H1 s1.heap.objs.size=none:=I1.hok.fresh (Nat.le_refl _)
 have en:ac3 X.K (hide H1 O) (merged [] ys) (aj0 kvs):=g7.all .nil
 obtain⟨o,ho,hdo⟩:=Heap.dictOf_iff.mp hd
 have I2:=I1.laid (a:=s1.heap.objs.size) (t':=tk) old (Nat.le_refl _) (aK0 ho)
 have hO:s1.heap.objs.size∉O:=fun z=>by
  obtain⟨u,q,_⟩:=L _ z
  rw[hn]at q;cases q
 have hlen:(aj0 kvs).length≤sizeLine:=by
  have key: ∀(ps:List (D×D)) (acc:List (D×D)),(ps.foldl (fun acc p=>ai9 acc p.1 p.2) acc).length≤acc.length+ps.length:=by
   intro ps
   induction ps with
   |nil=>exact fun acc=>Nat.le_refl _
   |    cons p r ih=>
        intro acc
        have h1:=ih (ai9 acc p.1 p.2)
        have h2:(ai9 acc p.1 p.2).length≤acc.length+1:=by
         unfold ai9
         split<;>simp
        simp only[List.foldl_cons,List.length_cons]
        omega
  have h1:=key kvs []
  have h2:=g7.length
  simp only[List.length_nil,Nat.zero_add]at h1
  unfold aj0
  omega
 refine⟨.ref s1.heap.objs.size,_,I2,rfl,q1 _ _ (ab2 hn) (ad1 ?_)⟩
 refine cp3 (o:=o) (xs:=merged [] ys) (by rw[ac1 hO];exact upd_same) (beq_eq_false_iff_ne.mpr (Nat.ne_of_gt I1.big)) ?_ (en.mono (Same.hide (ab2 hn))) hlen
 unfold ak8
 rw[←pw.1,←pw.2]
 exact hdo
theorem cp4 {m ma:Bool}(pw:PWr X)(hc:X.calm=true)(hgl:Gl X "dict")(hm:X.mg "dict"=none)(ha:PEx X C W ma a ra)(hs:starEach [a] X.env=(false,eval a X.env)::starEach [] X.env):
  PEx X C W m (.Call (.Name "dict" p) [a] [] pos) (fun τ=>(ra τ).bind (o1 .dprF)):=by
 refine⟨fun pins s σ H Q I h=> ?_⟩
 obtain⟨O,τ,rs,h⟩:=h
 refine Call_ (ld_blt I hgl hm boot_dict (PyProof.Rows.callWith_type1 (thn ((pa_cons ha pa_nil hs).run pos pins s σ H (fun vs H1=> ∃d v,vs=[v]∧Same H H1∧Vd X.K O H1 v d∧Ans C W O H1 σ (rM X.K m O) Q (o1 .dprF d)) I ⟨O,τ,rs,Ans.step h fun d v H1 e r z=>⟨d,v,rfl,e,ac0 r,z⟩⟩) fun us s1 ⟨vs,H1,I1,r1,d,v,ev,e1,vd,q1⟩=> ?_) hs rfl))
 subst ev
 cases d<;>try exact q1.elim
 ·rename_i ds
  have q1:Ans C W O H1 σ (rM X.K m O) Q ((ofO (aq8 ds)).bind fun ps=> .ok (.dict (aj0 ps))):=q1
  cases hp:aq8 ds with
  |none=>rw[hp]at q1;exact q1.elim
  |some kvs=>
   rw[hp]at q1
   obtain⟨l,ws,rfl,sq,rl,z1⟩:=vd.list
   rw[Vals.ref1 r1]
   obtain⟨its,rv,pl,_⟩:=I1.list sq
   exact bR6 pw hc (fun Ts ps=>PairArg.list l its.toArray Ts ps) I1 (rs.mono e1).lst rl rv pl z1 hp q1
 ·rename_i ds
  have q1:Ans C W O H1 σ (rM X.K m O) Q ((ofO (aq8 ds)).bind fun ps=> .ok (.dict (aj0 ps))):=q1
  cases hp:aq8 ds with
  |none=>rw[hp]at q1;exact q1.elim
  |some kvs=>
   rw[hp]at q1
   obtain⟨l,ws,rfl,sq,rl,z1⟩:=vd.tuple
   rw[Vals.ref1 r1]
   obtain⟨its,rv,pl,_⟩:=bA2 I1 (a1T aa9 sq)
   exact bR6 pw hc (fun Ts ps=>PairArg.tuple l its.toArray Ts ps) I1 (rs.mono e1).lst rl rv pl z1 hp q1
end
end Fz
namespace Fz
open PySem PySem.Spec L2 PyProof.Rows
variable [aa0] [FnT]
section
variable {X:Cx} {C:Nat→Addr} {W:WX}
theorem _root_.L2.PET.aa7 {X:Cx}{e:Expr}{t u:TE}(h:PET X e t)(f: ∀σ H Q,u σ H Q→t σ H Q):PET X e u:=fun pins s σ H Q h0 I q=>h pins s σ H Q h0 I (f σ H Q q)
theorem _root_.L2.PAT.aa7 {X:Cx}{es:List Expr}{t u:TA}(h:PAT X es t)(f: ∀σ H Q,u σ H Q→t σ H Q):PAT X es u:=fun pos pins s σ H Q h0 I q=>h pos pins s σ H Q h0 I (f σ H Q q)
variable {a b:Expr} {es:List Expr} {ra rb:Sd→R D} {rr:Sd→R (List D)} {pos apos:Pos}
end
end Fz
namespace Fz
open PySem PySem.Spec L2 PyProof.Rows
variable [aa0] [FnT]
theorem aw4.tr {X:Cx}{pn:List (Addr×Obj)}{xe:Value→Shared→Prop}{es:List Expr}{gs:List Clo}(h:aw4 X es gs):aw4 (X.tr pn xe) es gs:=by
 induction h with
 |nil=>exact .nil
 |cons a b c _ ih=>exact .cons a b c ih
theorem a2T.tr {X:Cx}{pn:List (Addr×Obj)}{xe:Value→Shared→Prop}{h:a7r}{φ:List D→R D}(a:a2T X h φ):a2T (X.tr pn xe) h φ:=by
 obtain⟨lv,nf,f,M,h1,h2,h3,h4,h5,h6⟩:=a.ex
 refine⟨lv,nf,f,M,h1,h2,h3,h4,h5,fun caps fes hf=> ?_⟩
 obtain⟨es,gs,n,c,q⟩:=h6 caps fes hf
 refine⟨es,gs,n.tr,c,q.imp id ?_⟩
 rintro⟨params,body,scope,lpos,ps,N,m,e,e2,l,t,z⟩
 exact⟨params,body,scope,lpos,ps,N,m,e,e2,⟨l.par,l.len,l.sc,l.free,l.cap,l.fn,l.run⟩,t,z⟩
section
variable {X:Cx} {C:Nat→Addr} {W:WX}
inductive PXs (X:Cx)(C:Nat→Addr)(W:WX):List Expr→(Sd→R (List D))→Prop
 |nil:PXs X C W [] (fun _=> .ok [])
 |cons {a:Expr} {es:List Expr} {ra:Sd→R D} {rr:Sd→R (List D)}:PEx X C W true a ra→ab6 a=true→PXs X C W es rr→PXs X C W (a::es) (fun τ=>(ra τ).bind fun x=>(rr τ).bind fun xs=> .ok (x::xs))
def cp6 (K:Fr')(C:Nat→Addr)(W:WX)(rr:Sd→R (List D))(t:TA):TA:=fun σ H Q=> ∃O τ,RS K O H σ τ∧Ans C W O H σ (rA K O) (fun vs H1=>t σ H1 fun ws H2=>Q (vs++ws) H2) (rr τ)
theorem PXs.app {ys:List Expr}{rr:Sd→R (List D)}(p:PXs X C W ys rr){fes:List Expr}{t:TA}(ht:PA X fes t):PA X (ys++fes) (cp6 X.K C W rr t):=by
 induction p with
 |nil=>exact ht.aa7 fun σ H Q ⟨O,τ,rs,h⟩=>h [] H (Same.refl _) .nil
 |cons pa ns _ ih=>
  refine(pa_cons pa ih (ab0 ns)).aa7 fun σ H Q hh=> ?_
  obtain⟨O,τ,rs,hh⟩:=hh
  refine⟨O,τ,rs,Ans.step hh fun d v H1 e r z=>⟨O,τ,rs.mono e,Ans.step z fun ds vs H2 e2 r2 z2=> ?_⟩⟩
  exact z2 _ H2 (Same.refl _) (.cons (Rp.mono (Same.hide e2) r) r2)
theorem PXs.ns {ys:List Expr}{rr:Sd→R (List D)}(p:PXs X C W ys rr): ∀y∈ys,ab6 y=true:=by
 induction p with
 |nil=>intro y h;cases h
 |cons _ ns _ ih=>
  intro y h
  rcases List.mem_cons.mp h with rfl|h
  ·exact ns
  ·exact ih y h
theorem cp7 {Φ:Nat→List D→R D}{lv:Nat}(hr:Room lv X.A)(hc: ∀(g:Nat) (H:Hp),FnT.ok g H→ag7 X.prog X.w X.K X.mg X.base lv ⟨FnT.fa g,FnT.ok g,Φ g⟩){i:Nat}{x:Str}(hN:X.N[i]? =some x)(hv:Vis X.env.scope x)(hd:(x==("__debug__":Str))=false)(hcd:(x==("__classdict__":Str))=false)
  {e:Expr} {es:List Expr} {rr:Sd→R (List D)} {p pos:Pos} {md:Bool} (ha:PAx X C W (e::es) rr) (he:starEach (e::es) X.env=(false,eval e X.env)::starEach es X.env) (hpl:(backTo pos (starEach es X.env)).any (·.1)=false):
  PEx X C W md (.Call (.Name x p) (e::es) [] pos) (fun τ=>(ar9 τ i).bind fun g=>(rr τ).bind fun ds=>(Φ g ds).calm):=by
 refine⟨fun pins s σ H Q I hh=> ?_⟩
 obtain⟨O,τ,rs,hh⟩:=hh
 dsimp only at hh
 cases hg:ar9 τ i with
 |no=>rw[hg]at hh;exact hh.elim
 |ex c=>unfold ar9 at hg;split at hg<;>cases hg
 |ok g=>
  rw[hg]at hh
  have hh:Ans C W O H σ (rM X.K md O) Q ((rr τ).bind fun ds=>(Φ g ds).calm):=hh
  have ht:τ[i]? =some (some (.fnc g)):=by
   unfold ar9 at hg
   split at hg
   ·rename_i g' e;cases hg;exact e
   ·cases hg
  obtain⟨hs,hok⟩:=rs.fnc i g ht
  have CRg:=hc g _ hok
  refine wpAny_Call_Name_kw (thn ((pe_var (pos:=p) hN hv hd hcd).run pins s σ H (fun v H1=>v= .ref (FnT.fa g)∧H1=H) I ⟨.ref (FnT.fa g),hs,rfl,rfl⟩) fun u s1 ⟨v,H1,I1,r1,q1⟩=> ?_)
  obtain⟨rfl,rfl⟩:=q1
  cases r1
  have fin: ∀(us:List Value) (s2:Shared) (vs:List V) (H2:Hp) (ds:List D),Inv X pins σ H2 s2→Vals vs us→Same H1 H2→aa1 X.K (hide H2 O) vs ds→Ans C W O H2 σ (rM X.K md O) Q (Φ g ds).calm→wpAny (model X.prog X.w) X.A (call (.ref (FnT.fa g)) us) (EP X pins σ Q) X.xe s2:=fun us s2 vs H2 ds I2 r e2 rp q=>by
   have rs2:=rs.mono e2
   cases hM:(Φ g ds).calm with
   |no=>rw[hM]at q;exact q.elim
   |    ex c=>
        cases h2:Φ g ds with
        |ok d=>rw[h2]at hM;cases hM
        |ex c=>rw[h2]at hM;cases hM
        |no=>rw[h2]at hM;cases hM
   |    ok d=>
        rw[hM]at q
        have Ih:=Inv.hide I2 rs2.lst
        have rc:=CRg.run X.A X.stack s2 (hide H2 O) us vs ds d (fun v H3=>Same (hide H2 O) H3∧Rp X.K H3 v d) (fun _ _ _=>False) hr Ih.env0 (au7 rs2.lst rs2.tab) (rs2.fnc i g ht).2 r rp (calm_eq hM) fun v H' a b=>⟨a,b⟩
        refine wpAny_call (codeAny_mono rc fun res s3 hc=> ?_)
        cases res with
        |error x=>
         obtain⟨_,_,_,_,_,_,_,_,_,_,_,_,z⟩:=hc
         exact z.elim
        |ok fl=>
         cases fl with
         |ret u=>
          obtain⟨v',H3,I3,rv',q3⟩:=Ih.after hc
          obtain⟨I4,hn4⟩:=Inv.ao7 I2 rs2.lst I3
          exact⟨v',_,I4,rv',q v' _ (aS5 rs2.lst hn4 q3.1) (ad1 (by rw[aS3 hn4];exact q3.2))⟩
         |next=>exact hc.elim
         |brk=>exact hc.elim
         |cont=>exact hc.elim
  have ar:=ha.run pos pins s1 σ H1 (fun vs H2=>Same H1 H2∧ ∃ds,aa1 X.K (hide H2 O) vs ds∧Ans C W O H2 σ (rM X.K md O) Q (Φ g ds).calm) I1 ⟨O,τ,rs,Ans.step hh fun ds vs H2 e2 r a=>⟨e2,ds,r,a⟩⟩
  have Ih1:=Inv.hide I1 rs.lst
  rcases CRg.at_ with hF|hK
  ·refine PySem.W.callWith_F (hF X.A X.stack s1 (hide H1 O) Ih1.env0 hok) (thn ar fun us s2 ⟨vs,H2,I2,r,e2,ds,rp,q⟩=>⟨?_,fin us s2 vs H2 ds I2 r e2 rp q⟩) he hpl
   have Ih2:=Inv.hide I2 (rs.mono e2).lst
   exact hF X.A X.stack s2 (hide H2 O) Ih2.env0 ((rs.mono e2).fnc i g ht).2
  ·exact PySem.W.callWith_K (h₀:=X.base) I1.ok.mod.kin hK (thn ar fun us s2 ⟨vs,H2,I2,r,e2,ds,rp,q⟩=>⟨I2.kIn,fin us s2 vs H2 ds I2 r e2 rp q⟩) he hpl
end
end Fz
namespace Fz
open PySem PySem.Spec L2
variable [aa0] [FnT]
section
variable {X:Cx} {c:Cfg} {C:Nat→Addr} {Φ:Nat→List D→R D} {W:WX} {a b d:E}
theorem not_test {r:Sd→R D}:(fun τ=>((r τ).bind asB).bind fun k=>R.ok !k)=(fun τ=>((r τ).bind (o1 .nt)).bind asB):=by
 funext τ
 cases r τ with
 |ok d=>cases d<;>rfl
 |ex c=>rfl
 |no=>rfl
theorem cp8 {X:Cx}{W:WX}{y:Expr}{pos:Pos}{r:Sd→R D}(h:PEx X C W true y r)(he: ∀whole,isTrue y X.env whole=(do let v←whole;standAt y.pos;holding [v] (truthy v))):
  PTx X C W (.UnaryOp .Not y pos) (fun τ=>((r τ).bind (o1 .emp)).bind asB):=by
 refine(pt_not (pt_truth h he)).aa7 fun σ H Q hh=> ?_
 obtain⟨O,τ,rs,hh⟩:=hh
 have e1:((r τ).bind (o1 .emp)).bind asB=(r τ).bind fun d=>(o1 .emp d).bind asB:=by cases r τ<;>rfl
 dsimp only at hh
 rw[e1]at hh
 refine⟨O,τ,rs,Ans.step hh fun d v H1 e rv z=> ?_⟩
 have rv:Vd X.K O H1 v d:=ac0 rv
 have same: ∀ {vs:List V} {xs:List D},aa1 X.K (hide H1 O) vs xs→(!(!vs.isEmpty))=xs.isEmpty:=fun {vs xs} q=>by cases q<;>rfl
 cases d<;>try exact z.elim
 ·obtain⟨a,vs,rfl,s1,r1,z1⟩:=rv.list
  exact⟨_,.inl ⟨vs,s1,rfl⟩,by show Q (!(!vs.isEmpty)) H1;rw[same r1];exact z _ H1 (Same.refl _) rfl⟩
 ·obtain⟨a,vs,rfl,s1,r1,z1⟩:=rv.tuple
  exact⟨_,.inr (.inl ⟨vs,af0 aa9 s1.t,rfl⟩),by show Q (!(!vs.isEmpty)) H1;rw[same r1];exact z _ H1 (Same.refl _) rfl⟩
theorem s_u {o:U}(ih:ac7 C Φ a):ac7 C Φ (.u o a):=by
 intro X c W g md x h
 unfold ck at h
 split at h
 ·rename_i y pos
  simp only[Bool.or_eq_true,Bool.and_eq_true,beq_iff_eq]at h
  rcases h with⟨rfl,h⟩|⟨⟨⟨rfl,hm⟩,hp⟩,h⟩
  ·refine aL6 (fun hm m=> ?_) (fun hm=> ?_)
   ·    have hs:md.sub= .str:=by cases md<;>first|rfl|exact absurd rfl hm
        rw[hs]at h
        have:=b9b (m:=m) (pos:=pos) (show PEx X C W true y (ev Φ a)from ih g .str y h)
        exact this
   ·    subst hm
        have:=b9a (pos:=pos) (show PTx X C W y (fun τ=>(ev Φ a τ).bind asB)from ih g .tst y h)
        rw[not_test]at this
        exact this
  ·cases md<;>first|cases hm|skip
   exact cp8 (show PEx X C W true y (ev Φ a)from ih g .str y h) (bR4 hp)
 ·rename_i y pos
  simp only[Bool.and_eq_true,beq_iff_eq]at h
  obtain⟨⟨rfl,h1⟩,h2⟩:=h
  refine ad4 (fun m=> ?_) h1
  have:=b9c (m:=m) (pos:=pos) (show PEx X C W true y (ev Φ a)from ih g .str y h2)
  exact this
 ·rename_i n p y pos
  split at h
  ·simp only[Bool.and_eq_true]at h
   obtain⟨⟨⟨h1,h2⟩,h3⟩,h4⟩:=h
   obtain⟨rfl,hg⟩:=ad0 g h2
   split at h1
   ·exact b9Q hg (g.free _ (by decide+kernel)) (show PEx X C W false y (ev Φ a)from ih g .pk y h4) (ab0 h3)
   ·cases h1
  ·simp only[Bool.and_eq_true]at h
   obtain⟨⟨⟨h1,h2⟩,h3⟩,h4⟩:=h
   obtain⟨rfl,hg⟩:=ad0 g h2
   unfold aL3 at h1
   split at h1
   ·exact b9X hg (g.free _ (by decide+kernel)) (a3c ih g h4 _ _ rfl) (ab0 h3)
   ·cases h1
  ·split at h
   ·    rename_i n2 p2 z pos2
        simp only[Bool.and_eq_true]at h
        obtain⟨⟨⟨h1,h2⟩,h3⟩,h4⟩:=h
        obtain⟨rfl,hg⟩:=ad0 g h1
        obtain⟨rfl,hg2⟩:=ad0 g h2
        refine ad4 (fun m=> ?_) (by cases md<;>rfl)
        exact cc3 g.calm g.un hg (g.free _ (by decide+kernel)) hg2 (g.free _ (by decide+kernel)) (show PEx X C W false z (ev Φ a)from ih g .pk z h4) (ab0 h3)
   ·cases h
  ·split at h
   ·    rename_i n2 p2 z pos2
        simp only[Bool.and_eq_true]at h
        obtain⟨⟨⟨h1,h2⟩,h3⟩,h4⟩:=h
        obtain⟨rfl,hg⟩:=ad0 g h1
        obtain⟨rfl,hg2⟩:=ad0 g h2
        refine ad4 (fun m=> ?_) (by cases md<;>rfl)
        exact cf1 g.calm g.un hg (g.free _ (by decide+kernel)) hg2 (g.free _ (by decide+kernel)) (show PEx X C W false z (ev Φ a)from ih g .pk z h4) (ab0 h3)
   ·cases h
  ·split at h
   ·    rename_i n2 p2 z pos2
        simp only[Bool.and_eq_true]at h
        obtain⟨⟨⟨h1,h2⟩,h3⟩,h4⟩:=h
        obtain⟨rfl,hg⟩:=ad0 g h1
        obtain⟨rfl,hg2⟩:=ad0 g h2
        refine ad4 (fun m=> ?_) (by cases md<;>rfl)
        exact ce1 g.calm hg (g.free _ (by decide+kernel)) hg2 (g.free _ (by decide+kernel)) (show PEx X C W false z (ev Φ a)from ih g .pk z h4) (ab0 h3)
   ·cases h
  ·simp only[Bool.and_eq_true]at h
   obtain⟨⟨h1,h3⟩,h4⟩:=h
   obtain⟨rfl,hg⟩:=ad0 g h1
   refine ad4 (fun m=> ?_) (by cases md<;>rfl)
   exact a6L (a7p g.pw g.calm g.un hg (g.free _ (by decide+kernel)) (show PEx X C W false y (ev Φ a)from ih g .pk y h4) (ab0 h3))
  ·simp only[Bool.and_eq_true]at h
   obtain⟨⟨h1,h3⟩,h4⟩:=h
   obtain⟨rfl,hg⟩:=ad0 g h1
   refine ad4 (fun m=> ?_) (by cases md<;>rfl)
   exact cp4 g.pw g.calm hg (g.free _ (by decide+kernel)) (show PEx X C W false y (ev Φ a)from ih g .pk y h4) (ab0 h3)
  ·split at h
   ·    rename_i n2 p2 z pos2
        simp only[Bool.and_eq_true]at h
        obtain⟨⟨⟨h1,h2⟩,h3⟩,h4⟩:=h
        obtain⟨rfl,hg⟩:=ad0 g h1
        obtain⟨rfl,hg2⟩:=ad0 g h2
        refine ad4 (fun m=> ?_) (by cases md<;>rfl)
        exact ci0 g.pw g.calm hg (g.free _ (by decide+kernel)) hg2 (g.free _ (by decide+kernel)) (show PEx X C W false z (ev Φ a)from ih g .pk z h4) (ab0 h3)
   ·cases h
  ·split at h
   ·    rename_i n2 p2 z pos2
        simp only[Bool.and_eq_true]at h
        obtain⟨⟨⟨h1,h2⟩,h3⟩,h4⟩:=h
        obtain⟨rfl,hg⟩:=ad0 g h1
        obtain⟨rfl,hg2⟩:=ad0 g h2
        refine ad4 (fun m=> ?_) (by cases md<;>rfl)
        exact ce6 g.calm hg (g.free _ (by decide+kernel)) hg2 (g.free _ (by decide+kernel)) (show PEx X C W false z (ev Φ a)from ih g .pk z h4) (ab0 h3)
   ·cases h
  ·simp only[Bool.and_eq_true]at h
   obtain⟨⟨h1,h2⟩,h3⟩:=h
   split at h1
   ·    rename_i k hk
        exact ad4 (fun m=>co8 g hk h1 h2 (ih g .pk y h3)) (by cases md<;>rfl)
   ·cases h1
 ·rename_i nm p0 n apos cpos
  simp only[Bool.and_eq_true,beq_iff_eq]at h
  obtain⟨⟨⟨⟨rfl,h1⟩,h2⟩,h3⟩,h4⟩:=h
  subst h2
  unfold aL3 at h1
  split at h1
  ·exact cl0 (a3c ih g h4 _ _ rfl) rfl (by simpa using h3)
  ·cases h1
 ·rename_i n p y t p2 pos
  simp only[Bool.and_eq_true]at h
  obtain⟨⟨⟨h1,h2⟩,h3⟩,h4⟩:=h
  split at h1
  ·rename_i k hk
   exact ad4 (fun m=>co9 g hk h1 h2 h3 (ih g .pk y h4)) (by cases md<;>rfl)
  ·cases h1
 ·cases h
theorem cp9 (g:Good X c C Φ W){o:B}{op:Operator}(h:opn o op=true):OpR X (binaryOp op) (r2 X.K (o2 o)):=by
 unfold opn at h
 split at h
 ·exact add_ok
 ·exact b7U
 ·exact b7V
 ·exact b7X
 ·exact b7Y
 ·exact b7Z
 ·cases h
theorem aL7 (g:Good X c C Φ W){o:B}{op:CmpOp}(h:aU0 o op=true):OpR X (compareOp op) (r2 X.K (o2 o)):=by
 unfold aU0 at h
 split at h
 ·exact bC5 g.un
 ·exact b71 g.un
 ·exact b72 g.un
 ·exact b75 g.un
 ·exact b76
 ·exact b77
 ·exact b78 g.pw g.un
 ·exact b79 g.pw g.un
 ·exact b8b
 ·exact b8c
 ·cases h
theorem pl2 {es:List Expr}{env:Env}{pos:Pos}(h: ∀x∈es,ab6 x=true):(backTo pos (starEach es env)).any (·.1)=false:=by
 induction es with
 |nil=>rfl
 |cons x r ih=>
  rw[ab0 (h x List.mem_cons_self)]
  have:=ih fun y hy=>h y (List.mem_cons_of_mem _ hy)
  unfold backTo at this ⊢
  rw[List.map_cons,List.any_cons,this]
  rfl
theorem s_b {o:B}(iha:ac7 C Φ a)(ihb:ac7 C Φ b):ac7 C Φ (.b o a b):=by
 intro X c W g md x h
 have pa: ∀ {y:Expr},ck c .pk a y=true→PEx X C W false y (ev Φ a):=fun h=>iha g .pk _ h
 have pb: ∀ {y:Expr},ck c .pk b y=true→PEx X C W false y (ev Φ b):=fun h=>ihb g .pk _ h
 unfold ck at h
 split at h
 ·rename_i y op z pos
  simp only[Bool.and_eq_true]at h
  exact ad4 (fun m=>b8X (cp9 g h.1.1) (az5 o) (pa h.1.2) (pb h.2)) (by cases md<;>rfl)
 ·rename_i y op z pos
  simp only[Bool.and_eq_true]at h
  obtain⟨⟨⟨h1,h2⟩,h3⟩,h4⟩:=h
  refine aL6 (fun hm m=> ?_) (fun hm=> ?_)
  ·exact b80 (aL7 g h1) (az5 o) (pa h3) (pb h4) (a7x h2)
  ·exact b82 (aL7 g h1) (az5 o) (pa h3) (pb h4) (a7x h2)
 ·simp only[Bool.and_eq_true,beq_iff_eq]at h
  obtain⟨⟨rfl,h1⟩,h2⟩:=h
  exact ad4 (fun m=>cb8 (pa h1) (pb h2)) (by cases md<;>rfl)
 ·simp only[Bool.and_eq_true,beq_iff_eq]at h
  obtain⟨⟨rfl,h1⟩,h2⟩:=h
  exact ad4 (fun m=>cc0 (pa h1) (pb h2)) (by cases md<;>rfl)
 ·simp only[Bool.and_eq_true,beq_iff_eq]at h
  obtain⟨⟨rfl,h1⟩,h2⟩:=h
  exact ad4 (fun m=>cd8 (pa h1) (pb h2)) (by cases md<;>rfl)
 ·simp only[Bool.and_eq_true,beq_iff_eq]at h
  obtain⟨⟨⟨rfl,h0⟩,h1⟩,h2⟩:=h
  exact ad4 (fun m=>b81 (b8h g.pw g.un) (az5 .ix) (pa h1) (pb h2) (co2 h0)) (by cases md<;>rfl)
 ·rename_i n p n2 p2 y z pos2 pos
  simp only[Bool.and_eq_true,beq_iff_eq]at h
  obtain⟨⟨⟨⟨⟨⟨rfl,k1⟩,k2⟩,h1⟩,h2⟩,h5⟩,h6⟩:=h
  obtain⟨rfl,hg⟩:=ad0 g k1
  obtain⟨rfl,hg2⟩:=ad0 g k2
  exact ad4 (fun m=>ce4 g.calm hg (g.free _ (by decide+kernel)) hg2 (g.free _ (by decide+kernel)) (pa h5) (pb h6) (ab0 h1) (ab0 h2) (pl2 fun x hx=>by
   have:x=z:=by simpa using hx
   subst this;exact h2)) (by cases md<;>rfl)
 ·rename_i n p y z pos
  simp only[Bool.and_eq_true]at h
  obtain⟨⟨h1,h2⟩,h⟩:=h
  have s1:starEach [y,z] X.env=(false,eval y X.env)::starEach [z] X.env:=ab0 h1
  have s2:starEach [z] X.env=(false,eval z X.env)::starEach [] X.env:=ab0 h2
  have s3:(backTo pos (starEach [z] X.env)).any (·.1)=false:=pl2 fun x hx=>by
   have:x=z:=by simpa using hx
   subst this;exact h2
  split at h
  ·simp only[Bool.and_eq_true]at h
   obtain⟨⟨⟨h3,h4⟩,h5⟩,h6⟩:=h
   obtain⟨rfl,hg⟩:=ad0 g h4
   split at h3
   ·exact b9S hg (g.free _ (by decide+kernel)) (pa h5) (pb h6) (by rw[s1,s2];rfl) s2
   ·cases h3
  ·simp only[Bool.and_eq_true]at h
   obtain⟨⟨⟨h3,h4⟩,h5⟩,h6⟩:=h
   obtain⟨rfl,hg⟩:=ad0 g h4
   unfold aL3 at h3
   split at h3
   ·exact b9Y hg (g.free _ (by decide+kernel)) (a3c iha g h5 _ _ rfl) (a3c ihb g h6 _ _ rfl) s1 s2 s3
   ·cases h3
  ·simp only[Bool.and_eq_true]at h
   obtain⟨⟨h4,h5⟩,h6⟩:=h
   obtain⟨rfl,hg⟩:=ad0 g h4
   exact ad4 (fun m=>cc4 g.calm hg (g.free _ (by decide+kernel)) (pa h5) (pb h6) s1 s2 s3) (by cases md<;>rfl)
  ·simp only[Bool.and_eq_true]at h
   obtain⟨⟨h4,h5⟩,h6⟩:=h
   obtain⟨rfl,hg⟩:=ad0 g h4
   exact ad4 (fun m=>cc5 g.calm hg (g.free _ (by decide+kernel)) (pa h5) (pb h6) s1 s2 s3) (by cases md<;>rfl)
  ·simp only[Bool.and_eq_true]at h
   obtain⟨⟨h4,h5⟩,h6⟩:=h
   obtain⟨rfl,hg⟩:=ad0 g h4
   exact ad4 (fun m=>cj0 g.calm g.un hg (g.free _ (by decide+kernel)) (show PEx X C W true _ (ev Φ a)from iha g .str _ h5) (show PEx X C W true _ (ev Φ b)from ihb g .str _ h6) s1 s2 s3) (by cases md<;>rfl)
  ·cases h
 ·cases h
theorem cq1 (i:Nat):ac7 C Φ (.plr i):=by
 intro X c W g md x h
 unfold ck at h
 split at h
 ·obtain⟨h1,h2,h3,h4⟩:=slot_of g h
  exact ad4 (fun m=>cc7 h1 h2 h3 h4) (by cases md<;>rfl)
 ·cases h
theorem cq2 (ihd:ac7 C Φ d)(iha:ac7 C Φ a)(ihb:ac7 C Φ b):ac7 C Φ (.ite d a b):=by
 intro X c W g md x h
 unfold ck at h
 split at h
 ·cases h
 ·simp only[Bool.and_eq_true]at h
  refine aL6 (fun hm m=> ?_) (fun hm=>absurd hm (by assumption))
  exact b9d (ihd g .tst _ h.1.1) (bE6 (show PEx X C W true _ (ev Φ a)from iha g .str _ h.1.2)) (bE6 (show PEx X C W true _ (ev Φ b)from ihb g .str _ h.2))
 ·cases h
theorem cq3 {o p:B}(iha:ac7 C Φ a)(ihb:ac7 C Φ b)(ihd:ac7 C Φ d):ac7 C Φ (.chain o p a b d):=by
 intro X c W g md x h
 unfold ck at h
 split at h
 ·rename_i y op op' z w pos
  simp only[Bool.and_eq_true]at h
  obtain⟨⟨⟨⟨⟨h1,h2⟩,h3⟩,h4⟩,h5⟩,h6⟩:=h
  have hm:lastMarks [op,op'] [z,w]=false:=a7x h3
  refine aL6 (fun _ m=> ?_) (fun _=> ?_)
  ·exact b9p (aL7 g h1) (aL7 g h2) (az5 o) (az5 p) (show PEx X C W false _ (ev Φ a)from iha g .pk _ h4) (show PEx X C W false _ (ev Φ b)from ihb g .pk _ h5) (show PEx X C W false _ (ev Φ d)from ihd g .pk _ h6) hm
  ·exact b9q (aL7 g h1) (aL7 g h2) (az5 o) (az5 p) (show PEx X C W false _ (ev Φ a)from iha g .pk _ h4) (show PEx X C W false _ (ev Φ b)from ihb g .pk _ h5) (show PEx X C W false _ (ev Φ d)from ihd g .pk _ h6) hm
 ·cases h
theorem s_call {f:Nat}{es:List E}(ih:ao1 C Φ es):ac7 C Φ (.call f es):=by
 intro X c W g md x h
 unfold ck at h
 split at h
 ·rename_i n p xs pos
  simp only[Bool.and_eq_true]at h
  obtain⟨⟨h1,h2⟩,h4⟩:=h
  split at h1
  ·rename_i f' hf
   have e:f=f':=by simpa using h1
   subst e
   obtain⟨pa,hl,hn⟩:=az4 ih g h4
   cases xs with
   |    nil=>
        cases es with
        |nil=>exact ad4 (fun m=>cb5 (g.fns _ _ hf) (az2 g h2) g.tk) (by cases md<;>rfl)
        |cons e es=>simp at hl
   |    cons y r=>
        exact ad4 (fun m=>cb4 (g.fns _ _ hf) (az2 g h2) g.tk pa (ab0 (hn y List.mem_cons_self)) (pl2 fun x hx=>hn x (List.mem_cons_of_mem _ hx))) (by cases md<;>rfl)
  ·cases h1
 ·cases h
theorem bR7 (g:Good X c C Φ W): ∀ {is:List Nat} {es:List Expr} {own:List (Str×Nat)},tgB.go c is es=some own→az0 X es is∧own.map (·.2)=is
 | [],[],own,h=>by
   unfold tgB.go at h
   cases h
   exact⟨.nil,rfl⟩
 | [],_::_,own,h=>by unfold tgB.go at h;cases h
 |i::is,[],own,h=>by unfold tgB.go at h;cases h
 | i::is,e::es,own,h=>by
   cases e with
   |Name x pos=>
    unfold tgB.go at h
    split at h
    ·   rename_i hx
        cases ho:tgB.go c is es with
        |none=>rw[ho]at h;cases h
        |some o=>
         rw[ho]at h
         cases h
         obtain⟨q1,q2⟩:=bR7 g ho
         obtain⟨z1,z2⟩:=g.sto x hx.2
         exact⟨.cons ⟨by rw[g.N];exact hx.1,z1,z2⟩ q1,by simp[q2]⟩
    ·cases h
   |_=>unfold tgB.go at h;cases h
theorem aU5 (g:Good X c C Φ W){t:Tg}{e:Expr}{own:List (Str×Nat)}(h:tgB c t e=some own):PG X e (tG X.K t):=by
 unfold tgB at h
 split at h
 ·split at h
  ·rename_i hx
   obtain⟨z1,z2⟩:=g.sto _ hx.2
   exact ca2 g.nd ⟨by rw[g.N];exact hx.1,z1,z2⟩
  ·cases h
 ·obtain⟨q1,q2⟩:=bR7 g h
  exact ca3 g.calm g.nd q1
 ·cases h
theorem cq4 {X:Cx}:PTs X [] (tR X.K C W0 rB (fun τ=>(ev Φ (.cst (.bool true)) τ).bind asB)):=by
 refine⟨fun pins s σ H Q I h=>pts_nil.run pins s σ H Q I ?_⟩
 obtain⟨O,τ,rs,h⟩:=h
 exact h true H (Same.refl _) rfl
theorem a7D {gt:Tg}{t:E}(ihs:ac7 C Φ a)(iht:ac7 C Φ t)(ihe:ac7 C Φ b)(g:Good X c C Φ W){elt tg iter:Expr}{ifs:List Expr}{scope:Scope}{pos:Pos}{own:List (Str×Nat)}
  (hT   :tgB (c.blk scope) gt tg=some own) (h1:blkC c.N c.sc scope own=true) (h2:own.map (·.2)=gt.slots) (h3:az1 iter=true) (h4:ck c (.src false tg) a iter=true) (h5:ck (c.blk scope) .str b elt=true) (h6:(match ifs with
        | []=>a2U t
        | [y]=>ck (c.blk scope) .tst t y
        |_=>false)=true):
  (∀ {σ:St} {H:Hp} {Q:VK},tF X.K C W (ev Φ (.comp gt a t b)) σ H Q→
   tLc (tR X.K C W (rI X.K false) (fun τ=>(ev Φ a τ).bind fun d=>ofO (itemsOf d))) (tG X.K gt) (tR X.K C W0 rB (fun τ=>(ev Φ t τ).bind asB)) (tR X.K C W0 (rM X.K true) (ev Φ b)) (own.map (·.2)) σ H Q)∧
  PIx X C W false tg iter (fun τ=>(ev Φ a τ).bind fun d=>ofO (itemsOf d))∧BlkOk X.N X.env.scope scope own∧
  (∀(s:Shared) (H:Hp) (Cc:Addr) (cl:List (Str×Addr)) (fp:List Addr),PG (X.blk s H scope (compEnvC scope cl Cc X.env) fp) tg (tG X.K gt))∧
  (∀(s:Shared) (H:Hp) (Cc:Addr) (cl:List (Str×Addr)) (fp:List Addr),PTs (X.blk s H scope (compEnvC scope cl Cc X.env) fp) ifs (tR X.K C W0 rB (fun τ=>(ev Φ t τ).bind asB)))∧
  (∀(s:Shared) (H:Hp) (Cc:Addr) (cl:List (Str×Addr)) (fp:List Addr),PEx (X.blk s H scope (compEnvC scope cl Cc X.env) fp) C W0 true elt (ev Φ b)):=by
 have ok:BlkOk X.N X.env.scope scope own:=by rw[g.N,g.sc];exact blkOk_by h1
 have pi:PIx X C W false tg iter (fun τ=>(ev Φ a τ).bind fun d=>ofO (itemsOf d)):=ihs g (.src false tg) iter h4
 have pg: ∀(s:Shared) (H:Hp) (Cc:Addr) (cl:List (Str×Addr)) (fp:List Addr),PG (X.blk s H scope (compEnvC scope cl Cc X.env) fp) tg (tG X.K gt):=fun s H Cc cl fp=>aU5 (g.blk ok s H Cc cl fp) hT
 have pe: ∀(s:Shared) (H:Hp) (Cc:Addr) (cl:List (Str×Addr)) (fp:List Addr),PEx (X.blk s H scope (compEnvC scope cl Cc X.env) fp) C W0 true elt (ev Φ b):=fun s H Cc cl fp=>ihe (g.blk ok s H Cc cl fp) .str elt h5
 have pt: ∀(s:Shared) (H:Hp) (Cc:Addr) (cl:List (Str×Addr)) (fp:List Addr),PTs (X.blk s H scope (compEnvC scope cl Cc X.env) fp) ifs (tR X.K C W0 rB (fun τ=>(ev Φ t τ).bind asB)):=fun s H Cc cl fp=>by
  split at h6
  ·unfold a2U at h6
   split at h6
   ·exact cq4
   ·cases h6
  ·rename_i y
   exact pts_one (iht (g.blk ok s H Cc cl fp) .tst y h6)
  ·cases h6
 refine⟨fun {σ H Q} hh=> ?_,pi,ok,pg,pt,pe⟩
 have fe:ev Φ (.comp gt a t b)=(fun τ=>((ev Φ a τ).bind fun d=>ofO (itemsOf d)).bind fun ds=>(turns (aT6 gt (fun τ=>(ev Φ t τ).bind asB) (ev Φ b) τ) ds).calm.bind fun ys=> .ok (.list ys)):=by
  funext τ
  rw[ev]
  cases ev Φ a τ<;>rfl
 rw[fe]at hh
 exact ca7 (pos:=pos) g.calm g.nd pi ok h2 pg pt pe hh
theorem cq6 {gt:Tg}{t:E}(ihs:ac7 C Φ a)(iht:ac7 C Φ t)(ihe:ac7 C Φ b):ac7 C Φ (.comp gt a t b):=by
 intro X c W g md x h
 unfold ck at h
 split at h
 ·split at h
  ·rename_i own hT
   simp only[Bool.and_eq_true,decide_eq_true_eq]at h
   obtain⟨⟨⟨⟨⟨h1,h2⟩,h3⟩,h4⟩,h5⟩,h6⟩:=h
   obtain⟨q,pi,ok,pg,pt,pe⟩:=a7D (pos:=by assumption) ihs iht ihe g hT h1 h2 h3 h4 h5 h6
   refine ad4 (fun m=>a6L ?_) (by cases md<;>rfl)
   exact(pe_lc g.calm g.nd pi ok pg pt pe (aU2 h3)).aa7 fun σ H Q hh=>q hh
  ·cases h
 ·cases h
theorem bR8: ∀(es:List E),evs Φ es=rsL (es.map (ev Φ))
 | []=>rfl
 |e::es=>by
  funext τ
  show((ev Φ e τ).bind fun x=>(evs Φ es τ).bind fun xs=>R.ok (x::xs))=_
  rw[bR8 es];rfl
theorem and_val (g:Good X c C Φ W){pos:Pos}{m:Bool}: ∀ {es:List E} {xs:List Expr},ao1 C Φ es→ckB c .str es xs=true→PEx X C W m (.BoolOp .And xs pos) (evA Φ es)
 | [],xs,_,h=>by unfold ckB at h;cases h
 |e::es,[],_,h=>by unfold ckB at h;cases h
 |e::es,x::r,ih,h=>by
  unfold ckB at h
  simp only[Bool.and_eq_true]at h
  obtain⟨h1,h2⟩:=h
  have p:PEx X C W true x (ev Φ e):=ih e List.mem_cons_self g .str x h1
  cases es with
  |nil=>
   cases r with
   |nil=>exact bE7 p
   |cons y r=>simp only[ckB]at h2;cases h2
  |cons e2 es=>
   cases r with
   |nil=>simp only[ckB]at h2;cases h2
   |    cons y r=>
        have:=and_val g (pos:=pos) (m:=m) (fun z hz=>ih z (List.mem_cons_of_mem _ hz)) h2
        exact b9f p this
theorem or_val (g:Good X c C Φ W){pos:Pos}{m:Bool}: ∀ {es:List E} {xs:List Expr},ao1 C Φ es→ckB c .str es xs=true→PEx X C W m (.BoolOp .Or xs pos) (evO Φ es)
 | [],xs,_,h=>by unfold ckB at h;cases h
 |e::es,[],_,h=>by unfold ckB at h;cases h
 |e::es,x::r,ih,h=>by
  unfold ckB at h
  simp only[Bool.and_eq_true]at h
  obtain⟨h1,h2⟩:=h
  have p:PEx X C W true x (ev Φ e):=ih e List.mem_cons_self g .str x h1
  cases es with
  |nil=>
   cases r with
   |nil=>exact bE7 p
   |cons y r=>simp only[ckB]at h2;cases h2
  |cons e2 es=>
   cases r with
   |nil=>simp only[ckB]at h2;cases h2
   |    cons y r=>
        have:=or_val g (pos:=pos) (m:=m) (fun z hz=>ih z (List.mem_cons_of_mem _ hz)) h2
        exact b9h p this
theorem bR9 (g:Good X c C Φ W){pos:Pos}: ∀ {es:List E} {xs:List Expr},ao1 C Φ es→ckB c .tst es xs=true→PWx X C W (.BoolOp .And xs pos) (fun τ=>(evA Φ es τ).bind asB)
 | [],xs,_,h=>by unfold ckB at h;cases h
 |e::es,[],_,h=>by unfold ckB at h;cases h
 |e::es,x::r,ih,h=>by
  unfold ckB at h
  simp only[Bool.and_eq_true]at h
  obtain⟨h1,h2⟩:=h
  have p:PTx X C W x (fun τ=>(ev Φ e τ).bind asB):=ih e List.mem_cons_self g .tst x h1
  cases es with
  |nil=>
   cases r with
   |    nil=>
        have:=b9j (pos:=pos) p
        refine cast ?_ this
        congr 2
        funext τ
        show _=((ev Φ e τ).bind fun x=>(asB x).bind fun c=>R.ok (.bool c)).bind asB
        cases ev Φ e τ with
        |ok d=>cases d<;>rfl
        |ex c=>rfl
        |no=>rfl
   |cons y r=>simp only[ckB]at h2;cases h2
  |cons e2 es=>
   cases r with
   |nil=>simp only[ckB]at h2;cases h2
   |    cons y r=>
        have:=b9n p (bR9 g (pos:=pos) (fun z hz=>ih z (List.mem_cons_of_mem _ hz)) h2)
        refine cast ?_ this
        congr 2
        funext τ
        show _=((ev Φ e τ).bind fun x=>(asB x).bind fun c=>if c=true then evA Φ (e2::es) τ else .ok (.bool false)).bind asB
        cases ev Φ e τ with
        |ok d=>
         cases d<;>try rfl
         rename_i k
         cases k<;>rfl
        |ex c=>rfl
        |no=>rfl
theorem bS0 (g:Good X c C Φ W){pos:Pos}: ∀ {es:List E} {xs:List Expr},ao1 C Φ es→ckB c .tst es xs=true→PWx X C W (.BoolOp .Or xs pos) (fun τ=>(evO Φ es τ).bind asB)
 | [],xs,_,h=>by unfold ckB at h;cases h
 |e::es,[],_,h=>by unfold ckB at h;cases h
 |e::es,x::r,ih,h=>by
  unfold ckB at h
  simp only[Bool.and_eq_true]at h
  obtain⟨h1,h2⟩:=h
  have p:PTx X C W x (fun τ=>(ev Φ e τ).bind asB):=ih e List.mem_cons_self g .tst x h1
  cases es with
  |nil=>
   cases r with
   |    nil=>
        have:=b9l (pos:=pos) p
        refine cast ?_ this
        congr 2
        funext τ
        show _=((ev Φ e τ).bind fun x=>(asB x).bind fun c=>R.ok (.bool c)).bind asB
        cases ev Φ e τ with
        |ok d=>cases d<;>rfl
        |ex c=>rfl
        |no=>rfl
   |cons y r=>simp only[ckB]at h2;cases h2
  |cons e2 es=>
   cases r with
   |nil=>simp only[ckB]at h2;cases h2
   |    cons y r=>
        have:=b9o p (bS0 g (pos:=pos) (fun z hz=>ih z (List.mem_cons_of_mem _ hz)) h2)
        refine cast ?_ this
        congr 2
        funext τ
        show _=((ev Φ e τ).bind fun x=>(asB x).bind fun c=>if c=true then .ok (.bool true)else evO Φ (e2::es) τ).bind asB
        cases ev Φ e τ with
        |ok d=>
         cases d<;>try rfl
         rename_i k
         cases k<;>rfl
        |ex c=>rfl
        |no=>rfl
theorem cr0 {es:List E}(ih:ao1 C Φ es):ac7 C Φ (.and es):=by
 intro X c W g md x h
 unfold ck at h
 split at h
 ·refine aL6 (fun hm m=> ?_) (fun hm=> ?_)
  ·have hs:md.sub= .str:=by cases md<;>first|rfl|exact absurd rfl hm
   rw[hs]at h
   exact and_val g ih h
  ·subst hm
   exact(bR9 g ih h).pt
 ·cases h
theorem cr2 {es:List E}(ih:ao1 C Φ es):ac7 C Φ (.or es):=by
 intro X c W g md x h
 unfold ck at h
 split at h
 ·refine aL6 (fun hm m=> ?_) (fun hm=> ?_)
  ·have hs:md.sub= .str:=by cases md<;>first|rfl|exact absurd rfl hm
   rw[hs]at h
   exact or_val g ih h
  ·subst hm
   exact(bS0 g ih h).pt
 ·cases h
end
theorem cr3 {C:Nat→Addr}{Φ:Nat→List D→R D}{i:Nat}{es:List E}(ih:ao1 C Φ es):ac7 C Φ (.fcl i es):=by
 intro X c W g md x h
 unfold ck at h
 split at h
 ·rename_i n p y ys pos
  simp only[Bool.and_eq_true]at h
  obtain⟨⟨h1,h2⟩,h3⟩:=h
  obtain⟨a1,a2,a3,a4⟩:=slot_of g h2
  obtain⟨lv,hr,hc⟩:=g.fcl h1
  obtain⟨pa,hl,hn⟩:=az4 ih g h3
  exact ad4 (fun m=>cp7 hr hc a1 a2 a3 a4 pa (ab0 (hn y List.mem_cons_self)) (pl2 fun x hx=>hn x (List.mem_cons_of_mem _ hx))) (by cases md<;>rfl)
 ·cases h
def cr4 (C:Nat→Addr)(Φ:Nat→List D→R D)(es:List E):Prop:= ∀e∈es,∀a0 d0,e= .b .add a0 (.cst d0)→ac7 C Φ a0
mutual
theorem sound (C:Nat→Addr)(Φ:Nat→List D→R D): ∀e:E,ac7 C Φ e
 | .var i=>co4 i
 | .pk .. =>fun _ md x h=>by unfold ck at h;cases h
 | .cst d=>co5 d
 | .tup es=>co6 (at5 C Φ es)
 | .lst es=>co7 (at5 C Φ es)
 | .u o a=>s_u (sound C Φ a)
 | .b o a b=>s_b (sound C Φ a) (sound C Φ b)
 | .cut .. =>fun _ md x h=>by unfold ck at h;cases h
 | .zip3 .. =>fun _ md x h=>by unfold ck at h;cases h
 | .get .. =>fun _ md x h=>by unfold ck at h;cases h
 | .idx .. =>fun _ md x h=>by unfold ck at h;cases h
 | .thunk .. =>fun _ md x h=>by unfold ck at h;cases h
 | .dct0 .. =>fun _ md x h=>by unfold ck at h;cases h
 | .dct1 .. =>fun _ md x h=>by unfold ck at h;cases h
 | .tab .. =>fun _ md x h=>by unfold ck at h;cases h
 | .fcl i es=>cr3 (at5 C Φ es)
 | .hof .. =>fun _ md x h=>by unfold ck at h;cases h
 | .skey .. =>fun _ md x h=>by unfold ck at h;cases h
 | .tm .. =>fun _ md x h=>by unfold ck at h;cases h
 | .up .. =>fun _ md x h=>by unfold ck at h;cases h
 | .si .. =>fun _ md x h=>by unfold ck at h;cases h
 | .tg .. =>fun _ md x h=>by unfold ck at h;cases h
 | .rpd .. =>fun _ md x h=>by unfold ck at h;cases h
 | .plr i=>cq1 i
 | .idt .. =>fun _ md x h=>by unfold ck at h;cases h
 | .pcl .. =>fun _ md x h=>by unfold ck at h;cases h
 | .obj .. =>fun _ md x h=>by unfold ck at h;cases h
 | .att .. =>fun _ md x h=>by unfold ck at h;cases h
 | .obd .. =>fun _ md x h=>by unfold ck at h;cases h
 | .sq .. =>fun _ md x h=>by unfold ck at h;cases h
 | .sd .. =>fun _ md x h=>by unfold ck at h;cases h
 | .sl .. =>fun _ md x h=>by unfold ck at h;cases h
 | .sit .. =>fun _ md x h=>by unfold ck at h;cases h
 | .top=>fun _ md x _=>by
   cases md with
   |str=>exact⟨fun _ _ _ _ _ _ h=>by obtain⟨_,_,_,h⟩:=h;exact h.elim⟩
   |pk=>exact⟨fun _ _ _ _ _ _ h=>by obtain⟨_,_,_,h⟩:=h;exact h.elim⟩
   |tst=>exact⟨fun _ _ _ _ _ _ h=>by obtain⟨_,_,_,h⟩:=h;exact h.elim⟩
   |src m tg=>exact⟨fun _ _ _ _ _ _ h=>by obtain⟨_,_,_,h⟩:=h;exact h.elim⟩
 | .and es=>cr0 (at5 C Φ es)
 | .or es=>cr2 (at5 C Φ es)
 | .ite t a b=>cq2 (sound C Φ t) (sound C Φ a) (sound C Φ b)
 | .chain o p a b d=>cq3 (sound C Φ a) (sound C Φ b) (sound C Φ d)
 | .chain3 .. =>fun _ md x h=>by unfold ck at h;cases h
 | .call f es=>s_call (at5 C Φ es)
 | .sel .. =>fun _ md x h=>by unfold ck at h;cases h
 | .comp g s t e=>cq6 (sound C Φ s) (sound C Φ t) (sound C Φ e)
theorem cr5 (C:Nat→Addr)(Φ:Nat→List D→R D): ∀(e:E) (a1:E) (d1:D),e= .b .add a1 (.cst d1)→ac7 C Φ a1
 | .b o a0 b0=>fun a1 d1 e=>by
   have e1:a0=a1:=by
    injection e
   intro X c W
   rw[←e1]
   exact sound C Φ a0
 | .var _=>fun _ _ e=>by cases e
 | .plr _=>fun _ _ e=>by cases e
 | .idt _ _=>fun _ _ e=>by cases e
 | .pcl _ _ _=>fun _ _ e=>by cases e
 | .obj _ _ _=>fun _ _ e=>by cases e
 | .att _ _=>fun _ _ e=>by cases e
 | .obd _ _ _ _=>fun _ _ e=>by cases e
 | .sq _ _ _ _=>fun _ _ e=>by cases e
 | .sd _ _ _ _=>fun _ _ e=>by cases e
 | .sl _ _=>fun _ _ e=>by cases e
 | .sit _=>fun _ _ e=>by cases e
 | .pk _=>fun _ _ e=>by cases e
 | .cst _=>fun _ _ e=>by cases e
 | .tup _=>fun _ _ e=>by cases e
 | .lst _=>fun _ _ e=>by cases e
 | .u _ _=>fun _ _ e=>by cases e
 | .cut _ _ _=>fun _ _ e=>by cases e
 | .zip3 _ _ _=>fun _ _ e=>by cases e
 | .get _ _ _=>fun _ _ e=>by cases e
 | .idx _ _=>fun _ _ e=>by cases e
 | .and _=>fun _ _ e=>by cases e
 | .or _=>fun _ _ e=>by cases e
 | .ite _ _ _=>fun _ _ e=>by cases e
 | .chain _ _ _ _ _=>fun _ _ e=>by cases e
 | .chain3 _ _ _ _ _ _ _=>fun _ _ e=>by cases e
 | .call _ _=>fun _ _ e=>by cases e
 | .sel _ _ _=>fun _ _ e=>by cases e
 | .comp _ _ _ _=>fun _ _ e=>by cases e
 | .top=>fun _ _ e=>by cases e
 | .thunk _ _=>fun _ _ e=>by cases e
 | .dct0=>fun _ _ e=>by cases e
 | .dct1 _ _=>fun _ _ e=>by cases e
 | .tab _ _ _=>fun _ _ e=>by cases e
 | .fcl _ _=>fun _ _ e=>by cases e
 | .hof _ _ _=>fun _ _ e=>by cases e
 | .skey _ _=>fun _ _ e=>by cases e
 | .tm _ _ _=>fun _ _ e=>by cases e
 | .up _=>fun _ _ e=>by cases e
 | .si _=>fun _ _ e=>by cases e
 | .tg _ _ _=>fun _ _ e=>by cases e
 | .rpd _ _ _ _ _ _=>fun _ _ e=>by cases e
theorem cr6 (C:Nat→Addr)(Φ:Nat→List D→R D): ∀es:List E,cr4 C Φ es
 | []=>fun _ h=>by cases h
 |y::es=>fun x hx a1 d1 e=>by
  rcases List.mem_cons.mp hx with h|h
  ·exact cr5 C Φ y a1 d1 (h▸e)
  ·exact cr6 C Φ es x h a1 d1 e
theorem at5 (C:Nat→Addr)(Φ:Nat→List D→R D): ∀es:List E,ao1 C Φ es
 | []=>fun _ h=>by cases h
 |e::es=>fun x hx=>by
  rcases List.mem_cons.mp hx with h|h
  ·rw[h];exact sound C Φ e
  ·exact at5 C Φ es x h
end
end Fz
namespace Fz
open PySem PySem.Spec L2
variable [aa0] [FnT]
theorem ext_list (l:Addr)(items:Array Value)(n:Nat)(b:Addr)(items2:Array Value)(n2:Nat)(dd:Option Addr)(sl:Array (Option Value))(hc0: ¬(!items.isEmpty&&Builtin.List.listTooLong (items.size+items2.size))=true)(hc1:items.size≤sizeLine)(hs2:items.size+items2.size≤sizeLine+1):
  Meets (Builtin.«list.extend» ⟨[.ref l,.ref b],[]⟩) (fun _ R s=>s.heap.get? l=some { cls:= .type "list",dict:=none,data:= .seq items n,slots:= #[] }∧s.heap.get? b=some { cls:= .type "list",dict:=dd,data:= .seq items2 n2,slots:=sl }∧R (.ok (.ret Value.none)) { s with heap:=s.heap.update l (Obj.mapSeq fun x=>x++items2),toks:=s.toks }):=
 .of_wp fun prog w A R s h=>by
  obtain⟨hp,g,d,tk,os⟩:=s;obtain⟨hl,hb,h⟩:=h;have f1:=AutoSeq1.idx_int;have f2:=AutoSeq1.sub_tuple_tuple;have f3:=AutoSeq1.sub_list_list;have f4:=AutoSeq1.sub_tuple_list;have f5:=AutoSeq1.sub_list_tuple;
  have hz':(items++items2).size≤sizeLine+1:=by rw[Array.size_append];exact hs2
  wp_walk using(wpAny_updateSeq hl rfl (hz:=hc1) (_hz':=hz')),AutoSeq1.wpAny_loadPart' hl,AutoSeq1.wpAny_loadPart' hb;exact⟨_,rfl,h⟩
theorem cr7 (l:Addr)(items:Array Value)(n:Nat)(b:Addr)(items2:Array Value)(n2:Nat)(dd:Option Addr)(sl:Array (Option Value))(hc0: ¬(!items.isEmpty&&Builtin.List.listTooLong (items.size+items2.size))=true)(hc1:items.size≤sizeLine)(hs2:items.size+items2.size≤sizeLine+1):
  Meets (Builtin.«list.extend» ⟨[.ref l,.ref b],[]⟩) (fun _ R s=>s.heap.get? l=some { cls:= .type "list",dict:=none,data:= .seq items n,slots:= #[] }∧s.heap.get? b=some { cls:= .type "tuple",dict:=dd,data:= .seq items2 n2,slots:=sl }∧R (.ok (.ret Value.none)) { s with heap:=s.heap.update l (Obj.mapSeq fun x=>x++items2),toks:=s.toks }):=
 .of_wp fun prog w A R s h=>by
  obtain⟨hp,g,d,tk,os⟩:=s;obtain⟨hl,hb,h⟩:=h;have f1:=AutoSeq1.idx_int;have f2:=AutoSeq1.sub_tuple_tuple;have f3:=AutoSeq1.sub_list_list;have f4:=AutoSeq1.sub_tuple_list;have f5:=AutoSeq1.sub_list_tuple;
  have hz':(items++items2).size≤sizeLine+1:=by rw[Array.size_append];exact hs2
  wp_walk using(wpAny_updateSeq hl rfl (hz:=hc1) (_hz':=hz')),AutoSeq1.wpAny_loadPart' hl,AutoSeq1.wpAny_loadPart' hb;exact⟨_,rfl,h⟩
def bS2 (K:Fr'):V→List V→Hp→VK→Prop:=fun x vs H Q=> ∃l b xs zs,x= .ref l∧vs=[.ref b]∧H l=some (.lst xs)∧(SqL K H b zs∨SqT K H b zs)∧xs.length+zs.length≤sizeLine∧Q .non (upd H l (.lst (xs++zs)))
theorem bS5 {X:Cx}:MtM X "list.extend" (bS2 X.K):=by
 intro pins s σ H x vs v us Q I rx rv h
 obtain⟨l,b,xs,zs,rfl,rfl,hH,hB,hz,q⟩:=h
 cases rx
 obtain⟨u,rfl,ru⟩:=rv.one
 cases ru
 obtain⟨z,its,n,r,hl,e⟩:=I.lstM hH
 have fin: ∀(its2:List Value),Vals zs its2→EP X pins σ Q .none { s with heap:=s.heap.update l (Obj.mapSeq fun x=>x++its2.toArray),toks:=s.toks }:=fun its2 r2=>
  ⟨.non,_,I.lset (its':=its++its2) hH e (by simp) (r.append r2) (by rw[List.length_append];omega),rfl,q⟩
 rcases hB with hB|hB
 ·obtain⟨its2,r2,p2,z2⟩:=I.list hB
  have n2:=r2.length
  have hsz:its.toArray.size+its2.toArray.size≤sizeLine:=by rw[List.size_toArray,List.size_toArray];omega
  have hlong: ¬(!its.toArray.isEmpty&&Builtin.List.listTooLong (its.toArray.size+its2.toArray.size))=true:=by
   rw[notLongL hsz,Bool.and_false]
   exact Bool.false_ne_true
  obtain⟨⟨cls2,dd2,data2,sl2⟩,m,ho2,hc2,hdd2,hd2⟩:=p2
  simp only at hc2 hd2
  subst hc2 hd2
  exact call_meets F.slot_list_extend ⟨_,e,rfl⟩ F.entry_list_extend (F.args_list_extend_2 _ _)
   (ext_list l its.toArray n b its2.toArray m dd2 sl2 hlong (by rw[List.size_toArray];omega) (by omega)) ⟨e,ho2,fin its2 r2⟩
 ·obtain⟨its2,r2,p2,z2⟩:=I.tuple hB
  have n2:=r2.length
  have hsz:its.toArray.size+its2.toArray.size≤sizeLine:=by rw[List.size_toArray,List.size_toArray];omega
  have hlong: ¬(!its.toArray.isEmpty&&Builtin.List.listTooLong (its.toArray.size+its2.toArray.size))=true:=by
   rw[notLongL hsz,Bool.and_false]
   exact Bool.false_ne_true
  obtain⟨⟨cls2,dd2,data2,sl2⟩,ho2,hc2,m,hd2⟩:=p2
  simp only at hc2 hd2
  subst hc2 hd2
  exact call_meets F.slot_list_extend ⟨_,e,rfl⟩ F.entry_list_extend (F.args_list_extend_2 _ _)
   (cr7 l its.toArray n b its2.toArray m dd2 sl2 hlong (by rw[List.size_toArray];omega) (by omega)) ⟨e,ho2,fin its2 r2⟩
def ad5 (K:Fr')(C:Nat→Addr)(W:WX)(Hb:Hp)(Dd:Ends):SR→Prop
 | .nx τ=> ∀σ O H,RS K O H σ τ→Same Hb (hide H O)→Dd.nx σ H
 | .rt d=> ∀v H,Same Hb H→Rp K H v d→Dd.rt v H
 | .rf xs=> ∀p vs H,Same Hb H→Fr Hb p→H p=some (.lst vs)→aa1 K (hide H [p]) vs xs→xs.length≤sizeLine→Dd.rt (.ref p) H
 | .ex c=> ∀σ H,Same Hb H→W (.ref (C c)) none σ H
 | .no=>False
def tS (K:Fr')(C:Nat→Addr)(W:WX)(r:Sd→SR):TS:=fun Dd σ H=> ∃Hb O τ,RS K O H σ τ∧Same Hb (hide H O)∧ad5 K C W Hb Dd (r τ)
abbrev PSx (X:Cx)(C:Nat→Addr)(W:WX)(st:Stmt)(r:Sd→SR):Prop:=PS X st (tS X.K C W r)
abbrev ah6 (X:Cx)(C:Nat→Addr)(W:WX)(st:List Stmt)(r:Sd→SR):Prop:=PSs X st (tS X.K C W r)
section
variable {K:Fr'} {C:Nat→Addr} {W:WX} {Hb Hb':Hp} {Dd:Ends}
theorem ad5.rebase {r:SR}(h:ad5 K C W Hb Dd r)(e:Same Hb Hb'):ad5 K C W Hb' Dd r:=by
 cases r with
 |nx τ=>exact fun σ O H rs s=>h σ O H rs (e.trans s)
 |rt d=>exact fun v H s r=>h v H (e.trans s) r
 |rf xs=>exact fun p vs H s f=>h p vs H (e.trans s) (e.ex.free f)
 |ex c=>exact fun σ H s=>h σ H (e.trans s)
 |no=>exact h
theorem ad5.step {α β:Type}{O:List Addr}{H:Hp}{σ:St}{rel:Hp→β→α→Prop}{Q:β→Hp→Prop}{ra:R α}{k:α→SR}(h:ad5 K C W Hb Dd (ra.toS k))(sb:Same Hb (hide H O))
  (f: ∀a b H1,Same H H1→rel H1 b a→ad5 K C W Hb Dd (k a)→Q b H1):Ans C W O H σ rel Q ra:=by
 cases ra with
 |ok a=>exact fun b H1 e r=>f a b H1 e r h
 |ex c=>exact fun H' e=>h σ H' (e.from sb)
 |no=>exact h
theorem ad5.thn {Dd':Ends}{r:SR}{k:Sd→SR}(h:ad5 K C W Hb Dd (r.thn k))(hn: ∀τ,ad5 K C W Hb Dd (k τ)→ ∀σ O H,RS K O H σ τ→Same Hb (hide H O)→Dd'.nx σ H)(hr:Dd'.rt=Dd.rt):ad5 K C W Hb Dd' r:=by
 cases r with
 |nx τ=>exact fun σ O H rs s=>hn τ h σ O H rs s
 |rt d=>exact fun v H s r=>by rw[hr];exact h v H s r
 |rf xs=>exact fun p vs H s f a b c=>by rw[hr];exact h p vs H s f a b c
 |ex c=>exact h
 |no=>exact h
end
section
variable {K:Fr'} {O:List Addr} {H:Hp} {σ:St} {τ:Sd}
def aL8 (K:Fr')(O:List Addr)(H:Hp)(a:Addr):Sv→Prop
 | .val _=>False
 | .fnc _=>False
 | .plv _=>False
 | .sto _=>False
 | .own xs=> ∃vs,H a=some (.lst vs)∧aa1 K (hide H O) vs xs∧xs.length≤sizeLine
 | .dct kvs=>aj2 K O H a kvs
theorem aL8.owned {a:Addr}{y:Sv}(h:aL8 K O H a y):y.owned=true:=by
 cases y<;>first|rfl|exact h.elim
theorem RS.bS6 (r:RS K O H σ τ){i:Nat}{y:Sv}(hy:y.owned=true)(h:τ[i]? =some (some y)): ∃a,σ[i]? =some (some (.ref a))∧a∈O∧aL8 K O H a y:=by
 cases y with
 |val d=>cases hy
 |fnc g=>cases hy
 |plv g=>cases hy
 |sto g=>cases hy
 |own xs=>
  obtain⟨a,vs,h1,h2,h3⟩:=r.own i xs h
  exact⟨a,h1,h2,vs,h3⟩
 |dct kvs=>
  obtain⟨a,h1,h2⟩:=r.dct i kvs h
  exact⟨a,h1,h2.1,h2⟩
theorem RS.cr8 (r:RS K O H σ τ){i:Nat}{l:Addr}{x y:Sv}{u:HO}(hi:τ[i]? =some (some x))(ox:x.owned=true)(hs:σ[i]? =some (some (.ref l)))(hO:l∈O)(hu:Hid l u)(new:aL8 K O (L2.upd H l u) l y):
  RS K O (L2.upd H l u) σ (τ.set i (some y)):=by
 have hh:hide (L2.upd H l u) O=hide H O:=ay3 hO
 have oy:=new.owned
 obtain⟨u0,q0,d0⟩:=r.lst l hO
 have ne: ∀ {j:Nat} {z:Sv} {a:Addr},j≠i→z.owned=true→τ[j]? =some (some z)→σ[j]? =some (some (.ref a))→a≠l:=fun {j z a} hj oz e h1 w=>by
  subst w
  exact r.sep j i a z x hj oz ox e hi h1 hs
 refine⟨a1Z q0 d0 r.tab,by simp[r.len],fun a ha=> ?_,fun j d e=> ?_,fun j zs e=> ?_,fun j zs e=> ?_,fun j k a z z' hjk oz oz' e1 e2 e3 e4=> ?_,fun j g e=>(by
  rw[hh]
  rcases get_set e with⟨_,z,_⟩|⟨_,e⟩
  ·cases z;cases oy
  ·exact r.fnc j g e),fun j g e=>(by
  rw[hh]
  rcases get_set e with⟨_,z,_⟩|⟨_,e⟩
  ·cases z;cases oy
  ·exact r.plv j g e),r.sto.sub (fun j d e=>by
  rcases get_set e with⟨_,z,_⟩|⟨_,e⟩
  ·cases z;cases oy
  ·exact⟨e,rfl⟩) (fun j z a oz e q=>by
  rcases get_set e with⟨rfl,z,_⟩|⟨_,e⟩
  ·exact .inl ⟨_,x,ox,hi,q⟩
  ·exact .inl ⟨j,z,oz,e,q⟩) (fun b u q d hb n=>⟨hb,by
   rw[upd_ne]
   ·exact q
   ·    intro z;subst z
        exact n i x ox hi hs⟩) (by rw[hh];exact Ex.refl _)⟩
 ·by_cases hal:a=l
  ·subst hal;exact⟨u,upd_same,hu⟩
  ·obtain⟨vs,q,d⟩:=r.lst a ha
   exact⟨vs,by rw[upd_ne hal];exact q,d⟩
 ·rw[hh]
  rcases get_set e with⟨_,z,_⟩|⟨_,e⟩
  ·cases z;cases oy
  ·exact r.val j d e
 ·rcases get_set e with⟨rfl,z,_⟩|⟨hj,e⟩
  ·cases z
   obtain⟨vs,h1⟩:=new
   exact⟨l,vs,hs,hO,h1⟩
  ·rw[hh]
   obtain⟨a,vs,h1,h2,h3,h4,h5⟩:=r.own j zs e
   exact⟨a,vs,h1,h2,by rw[upd_ne (ne hj rfl e h1)];exact h3,h4,h5⟩
 ·rcases get_set e with⟨rfl,z,_⟩|⟨hj,e⟩
  ·cases z
   exact⟨l,hs,new⟩
  ·obtain⟨a,h1,h2⟩:=r.dct j zs e
   exact⟨a,h1,h2.over h2.1 (upd_ne (ne hj rfl e h1)) (by rw[hh];exact Ex.refl _)⟩
 ·have key: ∀ {j:Nat} {z:Sv},z.owned=true→(τ.set i (some y))[j]? =some (some z)→ ∃z',z'.owned=true∧τ[j]? =some (some z'):=fun {j z} oz e=>by
   rcases get_set e with⟨rfl,_,_⟩|⟨_,e⟩
   ·exact⟨x,ox,hi⟩
   ·exact⟨z,oz,e⟩
  obtain⟨z1,o1,q1⟩:=key oz e1
  obtain⟨z2,o2,q2⟩:=key oz' e2
  exact r.sep j k a z1 z2 hjk o1 o2 q1 q2 e3 e4
theorem RS.upd (r:RS K O H σ τ){i:Nat}{l:Addr}{xs ys:List D}{ws:List V}(hi:τ[i]? =some (some (.own xs)))(hs:σ[i]? =some (some (.ref l)))(hO:l∈O)(hw:aa1 K (hide H O) ws ys)(hz:ys.length≤sizeLine):
  RS K O (L2.upd H l (.lst ws)) σ (τ.set i (some (.own ys))):=
 r.cr8 hi rfl hs hO (.inl ⟨_,rfl⟩) ⟨ws,upd_same,by rw[ay3 hO];exact hw,hz⟩
theorem RS.bS7 {H0:Hp}(r:RS K O H0 σ τ)(e:Same H0 H){i:Nat}{p:Addr}{y:Sv}{u:HO}(hn:Fr H0 p)(hp:H p=some u)(hd:Hid p u)(new:aL8 K (p::O) H p y):RS K (p::O) H (σ.set i (some (.ref p))) (τ.set i (some y)):=by
 have r1:RS K (p::O) H σ τ:=r.a6m e hn hp hd
 have oy:=new.owned
 have np: ∀ {j:Nat} {z:Sv},z.owned=true→τ[j]? =some (some z)→σ[j]? =some (some (.ref p))→False:=fun {j z} oz h1 h2=>by
  obtain⟨a,q1,q2,q3⟩:=r.bS6 oz h1
  rw[h2]at q1
  cases q1
  obtain⟨w,g1,g2⟩:=r.lst _ q2
  exact hn.hid g1 g2
 have hll: ∀ {j:Nat},j<τ.length→j<σ.length:=fun h=>by rw[r.len];exact h
 refine⟨r1.tab,by simp[r.len],r1.lst,fun j d e=> ?_,fun j zs e=> ?_,fun j zs e=> ?_,fun j k a z z' hjk oz oz' e1 e2 e3 e4=> ?_,fun j g e=>(by
  rcases get_set e with⟨_,z,_⟩|⟨hj,e⟩
  ·cases z;cases oy
  ·rw[List.getElem?_set_ne (Ne.symm hj)];exact r1.fnc j g e),fun j g e=>(by
  rcases get_set e with⟨_,z,_⟩|⟨hj,e⟩
  ·cases z;cases oy
  ·rw[List.getElem?_set_ne (Ne.symm hj)];exact r1.plv j g e),r.sto.sub (fun j d e=>by
  rcases get_set e with⟨_,z,_⟩|⟨hj,e⟩
  ·cases z;cases oy
  ·exact⟨e,List.getElem?_set_ne (Ne.symm hj)⟩) (fun j z a oz e' q=>by
  rcases get_set e' with⟨rfl,z,hl⟩|⟨hj,e'⟩
  ·rw[List.getElem?_set_self (hll hl)]at q
   cases q
   exact .inr hn
  ·rw[List.getElem?_set_ne (Ne.symm hj)]at q
   exact .inl ⟨j,z,oz,e',q⟩) (fun b u q d hb _=>⟨List.mem_cons_of_mem _ hb,e.ex.hid q d⟩) (fun b o q n=>by
   obtain⟨h1,h2⟩:=au6 q
   have hb:b≠p:=fun z=>by
        subst z
        obtain⟨ps,w⟩:=hn _ h2
        exact n ps w
   rw[ac1 (by simp[hb,h1])]
   exact e.ex b o h2 n)⟩
 ·rcases get_set e with⟨_,z,_⟩|⟨hj,e⟩
  ·cases z;cases oy
  ·obtain⟨v,h1,h2⟩:=r1.val j d e
   exact⟨v,by rw[List.getElem?_set_ne (Ne.symm hj)];exact h1,h2⟩
 ·rcases get_set e with⟨rfl,z,hl⟩|⟨hj,e⟩
  ·cases z
   obtain⟨ws,h1⟩:=new
   exact⟨p,ws,by rw[List.getElem?_set_self (hll hl)],List.mem_cons_self,h1⟩
  ·obtain⟨a,vs,h1,h2,h3⟩:=r1.own j zs e
   exact⟨a,vs,by rw[List.getElem?_set_ne (Ne.symm hj)];exact h1,h2,h3⟩
 ·rcases get_set e with⟨rfl,z,hl⟩|⟨hj,e⟩
  ·cases z
   exact⟨p,by rw[List.getElem?_set_self (hll hl)],new⟩
  ·obtain⟨a,h1,h2⟩:=r1.dct j zs e
   exact⟨a,by rw[List.getElem?_set_ne (Ne.symm hj)];exact h1,h2⟩
 ·rcases get_set e1 with⟨hj,z,hl⟩|⟨hj,e1'⟩
  ·rcases get_set e2 with⟨hk,_,_⟩|⟨hk,e2'⟩
   ·exact hjk (hj.trans hk.symm)
   ·    rw[hj,List.getElem?_set_self (hll hl)]at e3
        cases e3
        rw[List.getElem?_set_ne (Ne.symm hk)]at e4
        exact np oz' e2' e4
  ·rw[List.getElem?_set_ne (Ne.symm hj)]at e3
   rcases get_set e2 with⟨hk,z,hl⟩|⟨hk,e2'⟩
   ·    rw[hk,List.getElem?_set_self (hll hl)]at e4
        cases e4
        exact np oz e1' e3
   ·    rw[List.getElem?_set_ne (Ne.symm hk)]at e4
        exact r.sep j k a z z' hjk oz oz' e1' e2' e3 e4
theorem RS.a7E {H0:Hp}(r:RS K O H0 σ τ)(e:Same H0 H){i:Nat}{p:Addr}{ys:List D}{ws:List V}(hn:Fr H0 p)(hp:H p=some (.lst ws))(hw:aa1 K (hide H (p::O)) ws ys)(hz:ys.length≤sizeLine):
 RS K (p::O) H (σ.set i (some (.ref p))) (τ.set i (some (.own ys))):=r.bS7 e hn hp (.inl ⟨_,rfl⟩) ⟨ws,hp,hw,hz⟩
theorem RS.a7F {H0:Hp}(r:RS K O H0 σ τ)(e:Same H0 H){i:Nat}{p:Addr}{kvs:List (D×D)}(hn:Fr H0 p)(h:aj2 K (p::O) H p kvs):RS K (p::O) H (σ.set i (some (.ref p))) (τ.set i (some (.dct kvs))):=by
 obtain⟨o,h1,h2⟩:=h.at
 exact r.bS7 e hn h1 (.inr ⟨o,rfl,.inl h2⟩) h
theorem RS.free (r:RS K O H σ τ){i:Nat}{x:Sv}{d:D}(ox:x.owned=true)(hi:τ[i]? =some (some x))(new: ∀l O',(∀a∈O',a∈O)→l∉O'→aL8 K O H l x→Rp K (hide H O') (.ref l) d):
  ∃O',RS K O' H σ (τ.set i (some (.val d)))∧ ∀a∈O',a∈O:=by
 obtain⟨l,h1,h2,h3⟩:=r.bS6 ox hi
 have hs: ∀a∈O.filter (fun b=>decide (b≠l)),a∈O:=fun a ha=>(List.mem_filter.mp ha).1
 have hl:l∉O.filter (fun b=>decide (b≠l)):=fun z=>by simpa using(List.mem_filter.mp z).2
 have stay: ∀ {j:Nat} {z:Sv} {a:Addr},j≠i→z.owned=true→τ[j]? =some (some z)→σ[j]? =some (some (.ref a))→a∈O→a∈O.filter (fun b=>decide (b≠l)):=fun {j z a} hj oz e q1 q2=>by
  have:a≠l:=by
   intro w;subst w
   exact r.sep j i a z x hj oz ox e hi q1 h1
  exact List.mem_filter.mpr ⟨q2,by simpa using this⟩
 refine⟨O.filter (fun b=>decide (b≠l)),⟨r.tab,by simp[r.len],fun a ha=>r.lst a (hs a ha),fun j d' e=> ?_,fun j zs e=> ?_,fun j zs e=> ?_,fun j k a z z' hjk oz oz' e1 e2 e3 e4=> ?_,fun j g e=>(by
  rcases get_set e with⟨_,z,_⟩|⟨hj,e⟩
  ·cases z
  ·exact⟨(r.fnc j g e).1,FnT.mono g _ _ (ah4 hs).ex (r.fnc j g e).2⟩),fun j g e=>(by
  rcases get_set e with⟨_,z,_⟩|⟨hj,e⟩
  ·cases z
  ·obtain⟨v,h1,h2⟩:=r.plv j g e
   exact⟨v,h1,h2.mono (ah4 hs).ex⟩),r.sto.sub (fun j d e=>by
  rcases get_set e with⟨_,z,_⟩|⟨hj,e⟩
  ·cases z
  ·exact⟨e,rfl⟩) (fun j z a oz e q=>by
  rcases get_set e with⟨_,z,_⟩|⟨_,e⟩
  ·cases z;cases oz
  ·exact .inl ⟨j,z,oz,e,q⟩) (fun b u q d hb n=>⟨List.mem_filter.mpr ⟨hb,by
   have:b≠l:=fun z=>by
        subst z
        exact n i x ox hi h1
   simpa using this⟩,q⟩) (ah4 hs).ex⟩,hs⟩
 ·rcases get_set e with⟨rfl,z,_⟩|⟨hj,e⟩
  ·cases z
   exact⟨.ref l,h1,new l _ hs hl h3⟩
  ·obtain⟨v,q1,q2⟩:=r.val j d' e
   exact⟨v,q1,q2.mono (ah4 hs).ex⟩
 ·rcases get_set e with⟨_,z,_⟩|⟨hj,e⟩
  ·cases z
  ·obtain⟨a,ws,q1,q2,q3,q4,q5⟩:=r.own j zs e
   exact⟨a,ws,q1,stay hj rfl e q1 q2,q3,q4.mono (ah4 hs).ex,q5⟩
 ·rcases get_set e with⟨_,z,_⟩|⟨hj,e⟩
  ·cases z
  ·obtain⟨a,q1,q2⟩:=r.dct j zs e
   exact⟨a,q1,q2.over (stay hj rfl e q1 q2.1) rfl (ah4 hs).ex⟩
 ·rcases get_set e1 with⟨_,z,_⟩|⟨hj,e1⟩
  ·cases z;cases oz
  ·rcases get_set e2 with⟨_,z,_⟩|⟨hk,e2⟩
   ·cases z;cases oz'
   ·exact r.sep j k a z z' hjk oz oz' e1 e2 e3 e4
theorem RS.av6 (r:RS K O H σ τ)(i:Nat): ∃O',RS K O' H σ (Fz.av6 τ i)∧ ∀a∈O',a∈O:=by
 unfold Fz.av6
 split
 ·rename_i xs hi
  refine r.free rfl hi fun l O' hs hl h=> ?_
  obtain⟨vs,h3,h4,h5⟩:=h
  exact .lst (.of (by rw[ac1 hl];exact h3)) (h4.mono (ah4 hs).ex) h5
 ·rename_i kvs hi
  refine r.free rfl hi fun l O' hs hl h=> ?_
  obtain⟨h0,o,xs,vs,h1,h2,h3,h4,h5,h6,h7,h8,h9⟩:=h
  exact .dct (by rw[ac1 hl];exact h1) h2 h3 h4 h5 (h6.mono (ah4 hs).ex) h7 (h8.mono (ah4 hs).ex) h9
 ·exact⟨O,r,fun a h=>h⟩
theorem RS.frz: ∀(l:List Nat) {τ:Sd} {O:List Addr},RS K O H σ τ→ ∃O',RS K O' H σ (Fz.frz τ l)∧ ∀a∈O',a∈O
 | [],τ,O,r=>⟨O,r,fun a h=>h⟩
 |i::l,τ,O,r=>by
  obtain⟨O1,r1,s1⟩:=r.av6 i
  obtain⟨O2,r2,s2⟩:=RS.frz l r1
  exact⟨O2,r2,fun a h=>s1 a (s2 a h)⟩
end
section
variable {X:Cx} {C:Nat→Addr} {W:WX} {pos:Pos}
theorem cr9 {e:Expr}{r:Sd→R D}{m:Bool}(h:PEx X C W m e r)(hs:swapsWith e none pos.line X.env=pure false):PSx X C W (.Expr e pos) (fun τ=>(r τ).toS fun _=> .nx τ):=
 (ps_expr h hs).aa7 fun Dd σ H ⟨Hb,O,τ,rs,sb,hh⟩=>⟨O,τ,rs,ad5.step hh sb fun d v H1 e1 _ z=>z σ O H1 (rs.mono e1) (sb.trans (e1.ag6 rs.lst))⟩
theorem cs0 {e:Expr}{r:Sd→R D}(h:PEx X C W true e r):PSx X C W (.Return (some e) pos) (fun τ=>(r τ).toS .rt):=
 (ps_ret h).aa7 fun Dd σ H ⟨Hb,O,τ,rs,sb,hh⟩=>⟨O,τ,rs,ad5.step hh sb fun d v H1 e1 q z=>z v H1 ((sb.trans (e1.ag6 rs.lst)).trans ay2) (Rp.mono aa9 q)⟩
theorem cs1 {c:Expr}{a b:List Stmt}{rc:Sd→R Bool}{ra rb:Sd→SR}(hc:PTx X C W c rc)(ha:ah6 X C W a ra)(hb:ah6 X C W b rb):PSx X C W (.If c a b pos) (fun τ=>(rc τ).toS fun k=>if k=true then ra τ else rb τ):=by
 refine(ps_if hc ha hb).aa7 fun Dd σ H ⟨Hb,O,τ,rs,sb,hh⟩=>⟨O,τ,rs,ad5.step hh sb fun k k' H1 e1 q z=> ?_⟩
 cases q
 cases k
 ·exact⟨Hb,O,τ,rs.mono e1,sb.trans (e1.ag6 rs.lst),z⟩
 ·exact⟨Hb,O,τ,rs.mono e1,sb.trans (e1.ag6 rs.lst),z⟩
theorem cs4:ah6 X C W [] .nx:=pss_nil.aa7 fun Dd σ H ⟨Hb,O,τ,rs,sb,hh⟩=>hh σ O H rs sb
theorem bS9 {st:Stmt}{rest:List Stmt}{r:Sd→SR}{k:Sd→SR}(h:PSx X C W st r)(h2:ah6 X C W rest k):ah6 X C W (st::rest) (fun τ=>(r τ).thn k):=
 (pss_cons h h2).aa7 fun Dd σ H ⟨Hb,O,τ,rs,sb,hh⟩=>⟨Hb,O,τ,rs,sb,ad5.thn hh (fun τ z σ' O' H' rs' s'=>⟨Hb,O',τ,rs',s',z⟩) rfl⟩
theorem cs5 {e:Expr}{a:Nat}(hc:X.calm=true)(tk:Takes X W)(h:PMk X e (fun _ H Q=>Q (.ref (C a)) none H)):PSx X C W (.Raise (some e) none pos) (fun _=> .ex a):=
 (ps_raise hc tk h).aa7 fun Dd σ H ⟨Hb,O,τ,rs,sb,hh⟩=>hh σ H (sb.trans ay2)
theorem bT0 {tg e:Expr}{g:Tg}{r:Sd→R D}(h:PEx X C W true e r)(hg:PG X tg (tG X.K g))(hs:swapsWithSole [tg] e pos.line X.env=pure false)(hw:swappedStores [tg] e X.env=pure none)(h1:(assignEach [tg] X.env).map (·.2)=[assign tg X.env]):
  PSx X C W (.Assign [tg] e pos) (fun τ=>(r τ).toS fun d=>(ae8 g d τ).toS .nx):=by
 refine(ps_asg h hg hs hw h1).aa7 fun Dd σ H ⟨Hb,O,τ,rs,sb,hh⟩=>⟨O,τ,rs,ad5.step hh sb fun d v H1 e1 q z=> ?_⟩
 cases hb:ae8 g d τ with
 |ex c=>exfalso;revert hb;unfold ae8;split<;>(try split)<;>(try split)<;>(intro h;cases h)
 |no=>rw[hb]at z;exact z.elim
 |ok τ2=>
  rw[hb]at z
  exact⟨O,τ,d,τ2,rs.mono e1,q,hb,fun σ2 rs2 _=>z σ2 O H1 rs2 (sb.trans (e1.ag6 rs.lst))⟩
theorem ct0 {st:Stmt}{te:TE}{i:Nat}{r:Sd→R D}(h:PS X st (tAsg te (gName i)))(ht: ∀ {σ:St} {H:Hp} {Q:VK},tF X.K C W r σ H Q→te σ H Q):
  PSx X C W st (fun τ=>(r τ).toS fun d=>(ae8 (.one i) d τ).toS .nx):=
 h.aa7 fun Dd σ H ⟨Hb,O,τ,rs,sb,hh⟩=>ht ⟨O,τ,rs,ad5.step hh sb fun d v H1 e1 q z=>z _ O H1 ((rs.mono e1).aS6 (bF0 rs.lst q)) (sb.trans (e1.ag6 rs.lst))⟩
theorem ct1 {st:Stmt}{te:TE}{i:Nat}{r:Sd→R D}(h:PS X st (tAsg te (gName i)))(ht: ∀ {σ:St} {H:Hp} {Q:VK},tF X.K C W r σ H Q→te σ H Q):
  PSx X C W st (fun τ=>(r τ).toS fun d=>(match d with
   | .list xs=> .nx (τ.set i (some (.own xs)))
   | .dict kvs=> .nx (τ.set i (some (.dct kvs)))
   |_=> .no)):=by
 refine h.aa7 fun Dd σ H ⟨Hb,O,τ,rs,sb,hh⟩=>ht ⟨O,τ,rs,ad5.step hh sb fun d v H1 e1 q z=> ?_⟩
 rcases q with⟨p,vs,xs,rfl,rfl,h1,h2,h3,h4⟩|⟨p,kvs,rfl,rfl,h1,h2⟩
 ·exact z _ (p::O) H1 (rs.a7E e1 h1 h2 h3 h4) (sb.trans (a2L h1 e1 (rs.a7E (i:=i) e1 h1 h2 h3 h4).lst))
 ·exact z _ (p::O) H1 (rs.a7F e1 h1 h2) (sb.trans (a2L h1 e1 (rs.a7F (i:=i) e1 h1 h2).lst))
theorem ct3 {tg iter:Expr}{body:List Stmt}{g:Tg}{rsr:Sd→R (List D)}{rb:Sd→SR}(hp:PassesOwn (model X.prog X.w) X.A X.env X.xe)(hc:X.calm=true)(hi:PIx X C W true tg iter rsr)(hg:PG X tg (tG X.K g))(hb:ah6 X C W body rb)
  (hf:PS X (.For tg iter body [] pos) (tFor (tR X.K C W (rI X.K true) rsr) (tG X.K g) (tS X.K C W rb))):PSx X C W (.For tg iter body [] pos) (fun τ=>(rsr τ).toS fun ds=>as3 (fun x τ=>(ae8 g x τ).toS rb) ds τ):=by
 refine hf.aa7 fun Dd σ H ⟨Hb0,O,τ,rs,sb0,hh⟩=>⟨O,τ,rs,ad5.step hh sb0 fun ds J H1 e1 wk z0=> ?_⟩
 obtain⟨_,wk⟩:=wk
 have z:ad5 X.K C W (hide H1 O) Dd (as3 (fun x τ=>(ae8 g x τ).toS rb) ds τ):=z0.rebase (sb0.trans (e1.ag6 rs.lst))
 refine for_it wk (fun i σ' H'=> ∃O' τ',RS X.K O' H' σ' τ'∧Same (hide H1 O) (hide H' O')∧ad5 X.K C W (hide H1 O) Dd (as3 (fun x τ=>(ae8 g x τ).toS rb) (ds.drop i) τ')) ?_ ?_ ?_ ?_
 ·exact⟨O,τ,rs.mono e1,Same.refl _,by simpa using z⟩
 ·exact fun i σ' H' _ ⟨O',τ',_,s',_⟩=>s'.ex.trans aa9
 ·intro i x σ' H2 H3 hi2 ⟨O',τ',rs',s',a⟩ y
  obtain⟨d,hd,e3,rp⟩:=y.rp (O:=O') rs'.lst s'
  have hdrop:ds.drop i=d::ds.drop (i+1):=by
   obtain⟨hl,q⟩:=List.getElem?_eq_some_iff.mp hd
   rw[List.drop_eq_getElem_cons hl,q]
  rw[hdrop]at a
  simp only[as3]at a
  cases hbt:ae8 g d τ' with
  |ex c=>exfalso;revert hbt;unfold ae8;split<;>(try split)<;>(try split)<;>(intro h;cases h)
  |no=>rw[hbt]at a;exact a.elim
  |ok τ2=>
   rw[hbt]at a
   simp only[R.aF7]at a
   exact⟨O',τ',d,τ2,rs'.mono e3,rp,hbt,fun σ2 rs2 _=>⟨hide H1 O,O',τ2,rs2,s'.trans (e3.ag6 rs'.lst),ad5.thn a (fun τ3 z3 σ3 O3 H4 rs3 s3=>⟨O3,τ3,rs3,s3,z3⟩) rfl⟩⟩
 ·intro σ' H2 ⟨O',τ',rs',s',a⟩
  rw[List.drop_eq_nil_of_le (Nat.le_refl _)]at a
  exact a σ' O' H2 rs' s'
theorem ct4 {c:Expr}{body:List Stmt}{rc:Sd→R Bool}{rb:Sd→SR}{n:Nat}(hp:PassesOwn (model X.prog X.w) X.A X.env X.xe)(hc:PTx X C W c rc)(hb:ah6 X C W body rb):
  PSx X C W (.While c body [] pos) (fun τ=>aw1 rc rb n τ):=by
 refine(ps_while hp hc hb).aa7 fun Dd σ H ⟨Hb,O,τ,rs,sb,hh⟩=> ?_
 refine⟨fun m σ' H'=> ∃O' τ',RS X.K O' H' σ' τ'∧Same Hb (hide H' O')∧ad5 X.K C W Hb Dd (aw1 rc rb m τ'),⟨n,O,τ,rs,sb,hh⟩,?_⟩
 rintro m σ' H' ⟨O',τ',rs',s',a⟩
 cases m with
 |zero=>exact a.elim
 |succ m=>
  simp only[aw1]at a
  refine⟨O',τ',rs',ad5.step a s' fun k k' H1 e1 q z=> ?_⟩
  cases q
  cases k
  ·exact z σ' O' H1 (rs'.mono e1) (s'.trans (e1.ag6 rs'.lst))
  ·refine⟨fun σ2 H2=> ∃O2 τ2,RS X.K O2 H2 σ2 τ2∧Same Hb (hide H2 O2)∧ad5 X.K C W Hb Dd (aw1 rc rb m τ2),fun σ2 H2 w=>⟨m,Nat.lt_succ_self m,w⟩,?_⟩
   exact⟨Hb,O',τ',rs'.mono e1,s'.trans (e1.ag6 rs'.lst),ad5.thn z (fun τ3 z3 σ3 O3 H4 rs3 s3=>⟨O3,τ3,rs3,s3,z3⟩) rfl⟩
theorem ct5 {y:Expr}{env:Env}{cpos:Pos}(h:ab6 y=true):((backTo cpos (starEach [y] env)).all (fun x=> !x.1)&&(backToKw cpos (keywordEach [] env)).all (fun x=>x.1.isSome)
  &&decide (([y]:List Expr).length+([]:List Keyword).length+(if([]:List Keyword).isEmpty then 0 else 1)<30))=true:=by
 rw[ab0 h];rfl
theorem ct6 {i:Nat}{x:Str}{p apos cpos:Pos}{y:Expr}{r:Sd→R D}{m:Bool}(hN:X.N[i]? =some x)(hv:Vis X.env.scope x)(hd:(x==("__debug__":Str))=false)(hcd:(x==("__classdict__":Str))=false)(h:PEx X C W m y r)(hs:ab6 y=true)(hline:(apos.endLine==cpos.line)=true):
  PSx X C W (.Expr (.Call (.Attribute (.Name x p) "extend" apos) [y] [] cpos) pos) (fun τ=>(ownAt τ i).toS fun xs=>(r τ).toS fun d=>(ofO (ao5 d)).toS fun ys=>if xs.length+ys.length≤sizeLine then .nx (τ.set i (some (.own (xs++ys))))else .no):=by
 refine(ps_expr (pe_bm PySem.F.plainAttrs_list PySem.F.slot_list_extend PySem.F.type_list_extend bS5 (pe_var hN hv hd hcd) (pa_cons h pa_nil (ab0 hs)) rfl (ct5 hs) hline (ab0 hs) rfl) rfl).aa7 fun Dd σ H ⟨Hb,O,τ,rs,sb,hh⟩=> ?_
 replace hh:ad5 X.K C W Hb Dd ((ownAt τ i).toS fun xs=>(r τ).toS fun d=>(ofO (ao5 d)).toS fun ys=>if xs.length+ys.length≤sizeLine then .nx (τ.set i (some (.own (xs++ys))))else .no):=hh
 unfold ownAt at hh
 split at hh
 ·rename_i xs hi
  obtain⟨l,vs,h1,h2,h3,h4,h5⟩:=rs.own i xs hi
  refine⟨.ref l,h1,.inl ⟨rfl,_,.of h3⟩,O,τ,rs,ad5.step hh sb fun d v H1 e1 q z=> ?_⟩
  have n:=h4.length
  have key: ∀(ys:List D) (b:Addr) (ws:List V),(SqL X.K H1 b ws∨SqT X.K H1 b ws)→aa1 X.K (hide H1 O) ws ys→ad5 X.K C W Hb Dd (if xs.length+ys.length≤sizeLine then .nx (τ.set i (some (.own (xs++ys))))else .no)→
        bS2 X.K (.ref l) [.ref b] H1 (fun x H1=>Dd.nx σ H1):=by
   intro ys b ws hq hr z
   have n2:=hr.length
   by_cases hz:xs.length+ys.length≤sizeLine
   ·    rw[if_pos hz]at z
        refine⟨l,b,vs,ws,rfl,rfl,e1.lst h3,hq,by omega,z σ O _ ((rs.mono e1).upd hi h1 h2 ((h4.mono (Same.hide e1)).append hr) (by simp;omega)) ?_⟩
        rw[ay3 h2]
        exact sb.trans (e1.ag6 rs.lst)
   ·rw[if_neg hz]at z;exact z.elim
  cases d<;>try exact z.elim
  ·obtain⟨b,ws,rfl,q1,q2,q3⟩:=Vd.list (ac0 q)
   exact key _ b ws (.inl q1) q2 z
  ·obtain⟨b,ws,rfl,q1,q2,q3⟩:=Vd.tuple (ac0 q)
   exact key _ b ws (.inr (af0 aa9 q1.t)) q2 z
 ·exact hh.elim
end
end Fz
namespace Fz
open PySem PySem.Spec L2
variable [aa0] [FnT]
section
variable {K:Fr'} {O:List Addr} {H:Hp} {σ:St} {τ:Sd}
theorem RS.pushNone (r:RS K O H σ τ):RS K O H (σ++[none]) (τ++[none]):=by
 have key: ∀ {j:Nat} {z:Sv},(τ++[none])[j]? =some (some z)→τ[j]? =some (some z):=fun {j z} e=>by
  by_cases h:j<τ.length
  ·rwa [List.getElem?_append_left h]at e
  ·rw[List.getElem?_append_right (by omega)]at e
   cases hj:j-τ.length with
   |zero=>rw[hj]at e;cases e
   |succ k=>rw[hj]at e;cases e
 have key2: ∀ {j:Nat} {z:Sv},τ[j]? =some (some z)→(σ++[none])[j]? =σ[j]? :=fun {j z} e=>by
  have h:j<τ.length:=(List.getElem?_eq_some_iff.mp e).1
  rw[List.getElem?_append_left (by rw[r.len];exact h)]
 refine⟨r.tab,by simp[r.len],r.lst,fun j d e=> ?_,fun j xs e=> ?_,fun j xs e=> ?_,fun j k a xs ys hjk ox oy e1 e2 e3 e4=> ?_,fun j g e=>(by rw[key2 (key e)];exact r.fnc j g (key e)),fun j g e=>(by rw[key2 (key e)];exact r.plv j g (key e)),r.sto.sub (fun j d e=>⟨key e,key2 (key e)⟩) (fun j z a oz e q=> .inl ⟨j,z,oz,key e,by rw[key2 (key e)]at q;exact q⟩) (fun b u q d hb _=>⟨hb,q⟩) (Ex.refl _)⟩
 ·rw[key2 (key e)];exact r.val j d (key e)
 ·rw[key2 (key e)];exact r.own j xs (key e)
 ·rw[key2 (key e)];exact r.dct j xs (key e)
 ·rw[key2 (key e1)]at e3
  rw[key2 (key e2)]at e4
  exact r.sep j k a xs ys hjk ox oy (key e1) (key e2) e3 e4
theorem aM0 {α:Type}(l:List α)(x y:α):(l++[x]).set l.length y=l++[y]:=by
 rw[List.set_append_right _ _ (Nat.le_refl _),Nat.sub_self];rfl
theorem RS.ct9 (r:RS K O H σ τ){v:V}{d:D}(h:Rp K (hide H O) v d):RS K O H (σ++[some v]) (τ++[some (.val d)]):=by
 have:=r.pushNone.aS6 (i:=τ.length) h
 rw[aM0]at this
 rw[←r.len,aM0]at this
 exact this
theorem RS.bT4 {H0:Hp}(r:RS K O H0 σ τ)(e:Same H0 H){p:Addr}{ys:List D}{ws:List V}(hn:Fr H0 p)(hp:H p=some (.lst ws))(hw:aa1 K (hide H (p::O)) ws ys)(hz:ys.length≤sizeLine):
  RS K (p::O) H (σ++[some (.ref p)]) (τ++[some (.own ys)]):=by
 have:=r.pushNone.a7E e (i:=τ.length) hn hp hw hz
 rw[aM0]at this
 rw[←r.len,aM0]at this
 exact this
theorem RS.bT6 {H0:Hp}(r:RS K O H0 σ τ)(e:Same H0 H){p:Addr}{kvs:List (D×D)}(hn:Fr H0 p)(h:aj2 K (p::O) H p kvs):RS K (p::O) H (σ++[some (.ref p)]) (τ++[some (.dct kvs)]):=by
 have:=r.pushNone.a7F e (i:=τ.length) hn h
 rw[aM0]at this
 rw[←r.len,aM0]at this
 exact this
theorem RS.rename {σ':St}{τ':Sd}(r:RS K O H σ τ)(hlen:σ'.length=τ'.length)(ρ:Nat→Nat)(h: ∀j z,τ'[j]? =some (some z)→τ[ρ j]? =some (some z)∧σ[ρ j]? =σ'[j]?)
  (inj: ∀j k z z',τ'[j]? =some (some z)→τ'[k]? =some (some z')→ρ j=ρ k→j=k):RS K O H σ' τ':=by
 refine⟨r.tab,hlen,r.lst,fun j d e=> ?_,fun j xs e=> ?_,fun j xs e=> ?_,fun j k a xs ys hjk ox oy e1 e2 e3 e4=> ?_,fun j g e=>(by
  obtain⟨h1,h2⟩:=h j _ e
  rw[←h2];exact r.fnc _ g h1),fun j g e=>(by
  obtain⟨h1,h2⟩:=h j _ e
  rw[←h2];exact r.plv _ g h1),r.sto.to (fun j d e=>⟨ρ j,(h j _ e).1,(h j _ e).2.symm⟩) (fun j k a d e n q1 q2 q3 q4=>⟨ρ j,ρ k,d,e,fun w=>n (inj j k _ _ q1 q2 w),(h j _ q1).1,(h k _ q2).1,by rw[(h j _ q1).2];exact q3,by rw[(h k _ q2).2];exact q4⟩) (fun j z a oz e q=> .inl ⟨ρ j,z,oz,(h j _ e).1,by rw[(h j _ e).2];exact q⟩) (fun b u q d hb _=>⟨hb,q⟩) (Ex.refl _)⟩
 ·obtain⟨h1,h2⟩:=h j _ e
  rw[←h2];exact r.val _ d h1
 ·obtain⟨h1,h2⟩:=h j _ e
  rw[←h2];exact r.own _ xs h1
 ·obtain⟨h1,h2⟩:=h j _ e
  rw[←h2];exact r.dct _ xs h1
 ·obtain⟨h1,h2⟩:=h j _ e1
  obtain⟨h3,h4⟩:=h k _ e2
  exact r.sep (ρ j) (ρ k) a xs ys (fun e=>hjk (inj j k _ _ e1 e2 e)) ox oy h1 h3 (by rw[h2];exact e3) (by rw[h4];exact e4)
theorem RS.move {x:Option V}{y:Option Sv}{u:St}{t:Sd}(hl:σ.length=τ.length)(r:RS K O H (σ++x::u) (τ++y::t))(i:Nat):RS K O H (σ.set i x++u) (τ.set i y++t):=by
 have hlu:u.length=t.length:=by have:=r.len;simp at this;omega
 refine r.rename (by simp[hl,hlu]) (fun j=>if j<τ.length then(if j=i then τ.length else j)else j+1) (fun j z e=> ?_) (fun j k z z' e1 e2 h=> ?_)
 ·by_cases hj:j<τ.length
  ·rw[List.getElem?_append_left (by simpa using hj)]at e
   rw[List.getElem?_append_left (l₁:=σ.set i x) (by simp;omega)]
   simp only[hj,if_true]
   rcases get_set e with⟨rfl,h,hi⟩|⟨hji,e⟩
   ·    simp only[if_true]
        rw[List.getElem?_append_right (Nat.le_refl _),Nat.sub_self,List.getElem?_append_right (by omega),hl,Nat.sub_self,List.getElem?_set_self (by omega)]
        exact⟨by rw[h];rfl,rfl⟩
   ·    simp only[hji,if_false]
        rw[List.getElem?_append_left hj,List.getElem?_append_left (by omega),List.getElem?_set_ne (Ne.symm hji)]
        exact⟨e,rfl⟩
  ·rw[List.getElem?_append_right (by simpa using hj)]at e
   rw[List.getElem?_append_right (l₁:=σ.set i x) (by simp;omega)]
   simp only[hj,if_false]
   simp only[List.length_set]at e ⊢
   have e1:j+1-τ.length=(j-τ.length)+1:=by omega
   have e2:j+1-σ.length=(j-σ.length)+1:=by omega
   rw[List.getElem?_append_right (by omega),e1,List.getElem?_append_right (by omega),e2]
   exact⟨e,rfl⟩
 ·split at h<;>split at h<;>(try split at h)<;>(try split at h)<;>omega
theorem RS.prefix {u:St}{t:Sd}(r:RS K O H (σ++u) (τ++t))(hl:σ.length=τ.length):RS K O H σ τ:=by
 have at_: ∀ {j:Nat} {z:Option Sv},τ[j]? =some z→(τ++t)[j]? =some z∧(σ++u)[j]? =σ[j]? :=fun {j z} e=>by
  have h:j<τ.length:=(List.getElem?_eq_some_iff.mp e).1
  exact⟨by rw[List.getElem?_append_left h];exact e,List.getElem?_append_left (by omega)⟩
 refine⟨r.tab,hl,r.lst,fun j d e=> ?_,fun j xs e=> ?_,fun j xs e=> ?_,fun j k a xs ys hjk ox oy e1 e2 e3 e4=> ?_,fun j g e=>(by
  obtain⟨h1,h2⟩:=at_ e
  rw[←h2];exact r.fnc j g h1),fun j g e=>(by
  obtain⟨h1,h2⟩:=at_ e
  rw[←h2];exact r.plv j g h1),r.sto.sub (fun j d e=>⟨(at_ e).1,(at_ e).2.symm⟩) (fun j z a oz e q=> .inl ⟨j,z,oz,(at_ e).1,by rw[(at_ e).2];exact q⟩) (fun b u q d hb _=>⟨hb,q⟩) (Ex.refl _)⟩
 ·obtain⟨h1,h2⟩:=at_ e
  rw[←h2];exact r.val j d h1
 ·obtain⟨h1,h2⟩:=at_ e
  rw[←h2];exact r.own j xs h1
 ·obtain⟨h1,h2⟩:=at_ e
  rw[←h2];exact r.dct j xs h1
 ·obtain⟨h1,h2⟩:=at_ e1
  obtain⟨h3,h4⟩:=at_ e2
  exact r.sep j k a xs ys hjk ox oy h1 h3 (by rw[h2];exact e3) (by rw[h4];exact e4)
end
def aU6:Bool→D→Sv
 |true,.list xs=> .own xs
 |true,.dict kvs=> .dct kvs
 |_,d=> .val d
def svs:List Bool→List D→List Sv
 |b::bs,d::ds=>aU6 b d::svs bs ds
 |_,_=>[]
def isL:Bool→D→Bool
 |true,.list _=>true
 |true,.dict _=>true
 |true,_=>false
 |false,_=>true
def aU7:Sd→List Nat→List Sv→Sd
 |τ,i::is,v::vs=>aU7 (τ.set i (some v)) is vs
 |τ,_,_=>τ
def aw7 (K:Fr')(C:Nat→Addr)(W:WX):List (Bool×(Sd→R D))→TA
 | []=>tNil
 |(b,r)::l=>tCons (if b=true then tF K C W r else tR K C W (rM K true) r) (aw7 K C W l)
section
variable {X:Cx} {C:Nat→Addr} {W:WX} {pos:Pos}
theorem bT8 {σ:St}{τ:Sd}(hl:σ.length=τ.length): ∀ {l:List (Bool×(Sd→R D))} {u:St} {t:Sd} {O:List Addr} {H:Hp} {Q:List V→Hp→Prop},RS X.K O H (σ++u) (τ++t)→
   (match rsL (l.map (·.2)) τ with
    | .ok ds=> ∀vs O' H',Same (hide H O) (hide H' O')→Same H H'→RS X.K O' H' (σ++u++vs.map some) (τ++t++(svs (l.map (·.1)) ds).map some)→vs.length=l.length→ah3 τ [] []= .ok τ→(∀is:List Nat,is.length=l.length→ ∀τ1,ah3 τ1 (is.zip (l.map (·.1))) ds= .ok (aU7 τ1 is (svs (l.map (·.1)) ds)))→Q vs H'
    | .ex c=> ∀H',Off O H H'→W (.ref (C c)) none σ H'
    | .no=>False)→aw7 X.K C W l σ H Q
 | [],u,t,O,H,Q,r,h=>by
   refine h [] O H (Same.refl _) (Same.refl _) (by simpa[svs]using r) rfl rfl fun is his τ1=> ?_
   cases is with
   |nil=>rfl
   |cons _ _=>simp at his
 | (b,  rd)::l,u,t,O,H,Q,r,h=>by
   have r0:=r.prefix hl
   simp only[List.map_cons,rsL]at h
   have goal : ∀(d:D) (v:V) (O1:List Addr) (H1:Hp),rd τ= .ok d→isL b d=true→Same (hide H O) (hide H1 O1)→Same H H1→RS X.K O1 H1 (σ++(u++[some v])) (τ++(t++[some (aU6 b d)]))→aw7 X.K C W l σ H1 fun xs H2=>Q (v::xs) H2:=by
    intro d v O1 H1 hd hb e1 e1' r1
    rw[hd]at h
    simp only[R.ai6]at h
    refine bT8 hl r1 ?_
    cases hz:rsL (l.map (·.2)) τ with
    |no=>rw[hz]at h;exact h
    |ex c=>rw[hz]at h;exact fun H' e=>h H' ⟨e1.ex.trans e.ex,fun t=>e.tab (e1'.tab t)⟩
    |   ok ds=>
        rw[hz]at h
        intro vs O' H' e2 e2' r2 hlen _ hsp
        refine h (v::vs) O' H' (e1.trans e2) (e1'.trans e2') ?_ (by simp[hlen]) rfl fun is his τ1=> ?_
        ·simpa[svs,List.append_assoc]using r2
        ·cases is with
         |nil=>simp at his
         | cons i is=>
           cases b with
           |false=>exact hsp is (by simpa using his) (τ1.set i (some (.val d)))
           | true=>
             cases d<;>try (cases hb)
             · rename_i xs
               exact hsp is (by simpa using his) (τ1.set i (some (.own xs)))
             · rename_i kvs
               exact hsp is (by simpa using his) (τ1.set i (some (.dct kvs)))
   cases b with
   |false=>
    show tR X.K C W (rM X.K true) rd σ H fun x H1=>aw7 X.K C W l σ H1 fun xs H2=>Q (x::xs) H2
    refine⟨O,τ,r0,?_⟩
    cases hd:rd τ with
    |no=>rw[hd]at h;exact h
    |ex c=>rw[hd]at h;exact h
    |   ok d=>
        intro v H1 e1 rv
        exact goal d v O H1 hd rfl (e1.ag6 r.lst) e1 (by have:=(r.mono e1).ct9 rv;simpa[aU6,List.append_assoc]using this)
   |true=>
    show tF X.K C W rd σ H fun x H1=>aw7 X.K C W l σ H1 fun xs H2=>Q (x::xs) H2
    refine⟨O,τ,r0,?_⟩
    cases hd:rd τ with
    |no=>rw[hd]at h;exact h
    |ex c=>rw[hd]at h;exact h
    |   ok d=>
        intro v H1 e1 rv
        rcases rv with⟨p,ws,xs,rfl,rfl,h1,h2,h3,h4⟩|⟨p,kvs,rfl,rfl,h1,h2⟩
        ·exact goal _ _ (p::O) H1 hd rfl (a2L h1 e1 (r.bT4 e1 h1 h2 h3 h4).lst) e1 (by have:=r.bT4 e1 h1 h2 h3 h4;simpa[aU6,List.append_assoc]using this)
        ·exact goal _ _ (p::O) H1 hd rfl (a2L h1 e1 (r.bT6 e1 h1 h2).lst) e1 (by have:=r.bT6 e1 h1 h2;simpa[aU6,List.append_assoc]using this)
theorem bT9 {K:Fr'}{O:List Addr}{H:Hp}: ∀ {is:List Nat} {vs:List V} {ts:List Sv} {σ:St} {τ:Sd},is.length=vs.length→vs.length=ts.length→σ.length=τ.length→RS K O H (σ++vs.map some) (τ++ts.map some)→RS K O H (af2 σ is vs) (aU7 τ is ts)
 | [],[],[],σ,τ,_,_,_,r=>by simpa[af2,aU7]using r
 |i::is,v::vs,t::ts,σ,τ,h1,h2,hl,r=>by
  simp only[List.map_cons]at r
  have:=RS.move hl r i
  simp only[af2,aU7]
  exact bT9 (by simpa using h1) (by simpa using h2) (by simp[hl]) this
 | [],_::_,_,_,_,h1,_,_,_=>by simp at h1
 |_::_,[],_,_,_,h1,_,_,_=>by simp at h1
 |_,[],_::_,_,_,_,h2,_,_=>by simp at h2
 |_,_::_,[],_,_,_,h2,_,_=>by simp at h2
theorem bU1: ∀ {bs:List Bool} {ds:List D},bs.length=ds.length→(svs bs ds).length=ds.length
 | [],[],_=>rfl
 |b::bs,d::ds,h=>by simp only[svs,List.length_cons];rw[bU1 (by simpa using h)]
 | [],_::_,h=>by simp at h
 |_::_,[],h=>by simp at h
theorem bU2: ∀ {rs:List (Sd→R D)} {τ:Sd} {ds:List D},rsL rs τ= .ok ds→ds.length=rs.length
 | [],τ,ds,h=>by simp only[rsL]at h;cases h;rfl
 |e::es,τ,ds,h=>by
  simp only[rsL]at h
  cases h1:e τ with
  |ok d=>
   rw[h1]at h
   simp only[R.ai6]at h
   cases h2:rsL es τ with
   |ok r=>rw[h2]at h;cases h;simp[bU2 h2]
   |ex c=>rw[h2]at h;cases h
   |no=>rw[h2]at h;cases h
  |ex c=>rw[h1]at h;cases h
  |no=>rw[h1]at h;cases h
theorem bU4 {α β γ:Type}: ∀(l:List (α×β×γ)),(l.map (·.1)).zip (l.map (·.2.1))=l.map fun p=>(p.1,p.2.1)
 | []=>rfl
 |a::l=>by simp[bU4 l]
theorem a7J {st:Stmt}{l:List (Nat×Bool×(Sd→R D))}(h:PS X st (fun Dd σ H=>aw7 X.K C W (l.map (·.2)) σ H fun vs H1=> ∀H2,Same H1 H2→Dd.nx (af2 σ (l.map (·.1)) vs) H2)):
  PSx X C W st (fun τ=>(rsL (l.map (·.2.2)) τ).toS fun ds=>(ah3 τ (l.map fun p=>(p.1,p.2.1)) ds).toS .nx):=by
 refine h.aa7 fun Dd σ H ⟨Hb,O,τ,rs,sb,hh⟩=> ?_
 refine bT8 (u:=[]) (t:=[]) rs.len (by simpa using rs) ?_
 have em:(l.map (·.2)).map (·.2)=l.map (·.2.2):=by simp[List.map_map]
 rw[em]
 dsimp only at hh
 cases hz:rsL (l.map (·.2.2)) τ with
 |no=>rw[hz]at hh;exact hh
 |ex c=>rw[hz]at hh;exact fun H' e=>hh σ H' (e.from sb)
 |ok ds=>
  rw[hz]at hh
  intro vs O' H' e1 e1' r hlen _ hsp H2 e2
  have hb:(l.map (·.2)).map (·.1)=l.map (·.2.1):=by simp[List.map_map]
  have hz':=hsp (l.map (·.1)) (by simp) τ
  have hzip:(l.map (·.1)).zip ((l.map (·.2)).map (·.1))=l.map fun p=>(p.1,p.2.1):=by
   rw[hb];exact bU4 l
  rw[hzip]at hz'
  rw[R.aF7,hz',R.aF7]at hh
  have hdl:=bU2 hz
  have r':RS X.K O' H' (σ++vs.map some) (τ++(svs ((l.map (·.2)).map (·.1)) ds).map some):=by simpa using r
  refine hh _ O' H2 ((bT9 (by simpa using hlen.symm) ?_ rs.len r').mono e2) ((sb.trans e1).trans (e2.ag6 r'.lst))
  rw[bU1 (by simp[hdl]),hdl,hlen];simp
theorem cu1 {σ:St}{H:Hp}{r:Sd→R D}{m:Bool}{Q Q':VK}(h:tR X.K C W (rM X.K m) r σ H Q)(f: ∀v H1,Q v H1→Q' v H1):tR X.K C W (rM X.K m) r σ H Q':=by
 obtain⟨O,τ,rs,a⟩:=h
 exact⟨O,τ,rs,a.imp fun b d H1 _ z g=>f b H1 (g z)⟩
theorem cu2 {σ:St}{H:Hp}{r:Sd→R D}{Q Q':VK}(h:tF X.K C W r σ H Q)(f: ∀v H1,Q v H1→Q' v H1):tF X.K C W r σ H Q':=by
 obtain⟨O,τ,rs,a⟩:=h
 exact⟨O,τ,rs,a.imp fun b d H1 _ z g=>f b H1 (g z)⟩
theorem aU8 {σ:St}: ∀ {l:List (Bool×(Sd→R D))} {H:Hp} {Q Q':List V→Hp→Prop},aw7 X.K C W l σ H Q→(∀vs H1,vs.length=l.length→Q vs H1→Q' vs H1)→aw7 X.K C W l σ H Q'
 | [],H,Q,Q',h,f=>f [] H rfl h
 |(b,r)::l,H,Q,Q',h,f=>by
  cases b with
  |false=>exact cu1 (m:=true) (show tR X.K C W (rM X.K true) r σ H _ from h) fun v H1 q=>aU8 q fun vs H2 hl z=>f _ H2 (by simp[hl]) z
  |true=>exact cu2 (show tF X.K C W r σ H _ from h) fun v H1 q=>aU8 q fun vs H2 hl z=>f _ H2 (by simp[hl]) z
inductive PMx (X:Cx)(C:Nat→Addr)(W:WX):List Expr→List (Bool×(Sd→R D))→Prop
 |nil:PMx X C W [] []
 |val {x:Expr} {xs:List Expr} {r:Sd→R D} {l:List (Bool×(Sd→R D))}:ab6 x=true→PEx X C W true x r→PMx X C W xs l→PMx X C W (x::xs) ((false,r)::l)
 |own {x:Expr} {xs:List Expr} {r:Sd→R D} {l:List (Bool×(Sd→R D))}:ab6 x=true→PFx X C W x r→PMx X C W xs l→PMx X C W (x::xs) ((true,r)::l)
theorem PMx.pa {xs:List Expr}{l:List (Bool×(Sd→R D))}(h:PMx X C W xs l):PA X xs (aw7 X.K C W l)∧xs.length=l.length:=by
 induction h with
 |nil=>exact⟨pa_nil,rfl⟩
 |val n p _ ih=>exact⟨pa_cons p ih.1 (ab0 n),by simp[ih.2]⟩
 |own n p _ ih=>exact⟨pa_cons p ih.1 (ab0 n),by simp[ih.2]⟩
theorem cu5 {ts vs:List Expr}{k k2:Nat}{p p2:Pos}{l:List (Nat×Bool×(Sd→R D))}(hc:X.calm=true)(hN:X.N.Nodup)(hm:PMx X C W vs (l.map (·.2)))(hl:l.length≤sizeLine)(hs:az0 X ts (l.map (·.1)))
  (hw:swappedStores [.Tuple ts k p] (.Tuple vs k2 p2) X.env=pure none):
  PSx X C W (.Assign [.Tuple ts k p] (.Tuple vs k2 p2) pos) (fun τ=>(rsL (l.map (·.2.2)) τ).toS fun ds=>(ah3 τ (l.map fun p=>(p.1,p.2.1)) ds).toS .nx):=by
 obtain⟨g1,g2,g3⟩:=bM7 hN hs
 refine a7J ((ps_asg (pe_tup hm.pa.1) (pg_tup hc g1 g2 g3) rfl hw rfl).aa7 fun Dd σ H hh=> ?_)
 refine aU8 hh fun vs H1 hlen z=>⟨by rw[hlen];simpa using hl,fun q hq=>⟨q,vs,rfl,.of upd_same,by rw[hlen];simp,a2D (by rw[hlen];simp) (z _ (ab2 hq))⟩⟩
theorem cu6 {i j:Nat}{x y:Str}{a b:Expr}{b1 b2:Bool}{r1 r2:Sd→R D}{px py pt pt2:Pos}{kt k2:Nat}(hc:X.calm=true)(hN:X.N.Nodup)(hi:X.N[i]? =some x)(hj:X.N[j]? =some y)(hij:i≠j)
  (hx:X.env.scope.names.lookup x=some .local) (hy:X.env.scope.names.lookup y=some .local) (hm:PMx X C W [a,b] [(b1,r1),(b2,r2)])
  (hw:swappedStores [.Tuple [.Name x px,.Name y py] kt pt] (.Tuple [a,b] k2 pt2) X.env=pure (some [x,y])):
  PSx X C W (.Assign [.Tuple [.Name x px,.Name y py] kt pt] (.Tuple [a,b] k2 pt2) pos) (fun τ=>(rsL [r1,r2] τ).toS fun ds=>(ah3 τ [(i,b1),(j,b2)] ds).toS .nx):=by
 refine a7J (l:=[(i,b1,r1),(j,b2,r2)]) ((ps_par hc hN hi hj hij hx hy hm.pa.1 hw rfl).aa7 fun Dd σ H hh=> ?_)
 refine aU8 hh fun vs H1 hlen z=> ?_
 match vs,hlen,z with
 | [v,w],_,z=>exact⟨v,w,rfl,z H1 (Same.refl _)⟩
theorem cu7 {i j l:Nat}{x y z:Str}{a b c:Expr}{b1 b2 b3:Bool}{r1 r2 r3:Sd→R D}{px py pz pt pt2:Pos}{kt k2:Nat}(hc:X.calm=true)(hN:X.N.Nodup)(hi:X.N[i]? =some x)(hj:X.N[j]? =some y)(hl:X.N[l]? =some z)(hij:i≠j)(hil:i≠l)(hjl:j≠l)
  (hx:X.env.scope.names.lookup x=some .local) (hy:X.env.scope.names.lookup y=some .local) (hz:X.env.scope.names.lookup z=some .local) (hm:PMx X C W [a,b,c] [(b1,r1),(b2,r2),(b3,r3)])
  (hw:swappedStores [.Tuple [.Name x px,.Name y py,.Name z pz] kt pt] (.Tuple [a,b,c] k2 pt2) X.env=pure (some [x,y,z])):
  PSx X C W (.Assign [.Tuple [.Name x px,.Name y py,.Name z pz] kt pt] (.Tuple [a,b,c] k2 pt2) pos) (fun τ=>(rsL [r1,r2,r3] τ).toS fun ds=>(ah3 τ [(i,b1),(j,b2),(l,b3)] ds).toS .nx):=by
 refine a7J (l:=[(i,b1,r1),(j,b2,r2),(l,b3,r3)]) ((ps_par3 hc hN hi hj hl hij hil hjl hx hy hz hm.pa.1 hw rfl).aa7 fun Dd σ H hh=> ?_)
 refine aU8 hh fun vs H1 hlen z=> ?_
 match vs,hlen,z with
 | [u,v,w],_,z=>exact⟨u,v,w,rfl,z H1 (Same.refl _)⟩
end
end Fz
namespace Fz
open PySem PySem.Spec PyProof.Rows L2
variable [aa0] [FnT]
theorem ab7.drop {K:Fr'}{H:Hp}{k:D}(hk:ab8 k=true): ∀ {xs:List (NestedKey×Addr×Value)} {kvs:List (D×D)},ab7 K H xs kvs→ab7 K H (DT.dropH xs (nk k)) (aR9 kvs k)
 |_,_,.nil=> .nil
 |_,_,.cons (k:=k') (a:=a) (u:=u) (xs:=xs) (kvs:=kvs) hd r1 r2 r3 t=>by
  have ih:=ab7.drop hk t
  unfold DT.dropH aR9 at ih ⊢
  rw[List.filter_cons,List.filter_cons]
  have e:decide (nk k'≠nk k)= !PyData.eqv k' k:=by
   rw[←a2d hd hk]
   simp
  rw[show decide ((nk k',a,u).1≠nk k)= !PyData.eqv k' k from e]
  split
  ·exact .cons hd r1 r2 r3 ih
  ·exact ih
end Fz
namespace Fz
open PySem PySem.Spec PyProof.Rows L2
variable [aa0] [FnT]
section
variable {X:Cx} {C:Nat→Addr} {W:WX} {pos:Pos}
theorem bU9 {ma:Bool}{a:Expr}{ra:Sd→R D}{p p2 pos2:Pos}(hc:X.calm=true)(hgl:Gl X "list")(hm:X.mg "list"=none)(hg2:Gl X "range")(hm2:X.mg "range"=none)(ha:PEx X C W ma a ra)
  (hs:starEach [a] X.env=(false,eval a X.env)::starEach [] X.env):
  PFx X C W (.Call (.Name "list" p) [.Call (.Name "range" p2) [a] [] pos2] [] pos) (fun τ=>(ra τ).bind (o1 .lrng)):=by
 refine(pe_listRg hc hgl hm (prg_1 hg2 hm2 ha hs) rfl).aa7 fun σ H Q hh=> ?_
 obtain⟨O,τ,rs,hh⟩:=hh
 refine⟨O,τ,rs,Ans.step hh fun x v H1 e1 r1 z1=> ?_⟩
 cases x<;>try exact z1.elim
 rename_i n
 cases Vd.int (ac0 r1)
 have z1:Ans C W O H1 σ (rF X.K O H) Q (if 0≤n∧n≤1000 then R.ok (.list (ae2 0 n.toNat))else .no):=z1
 split at z1
 ·rename_i hn
  exact⟨n,rfl,by unfold RgOk;omega,fun q hq=>z1 _ _ (ab2 hq) (aK6 e1 hq (a7l n) (by rw[a2O,sizeLine_eq];omega))⟩
 ·exact z1.elim
theorem bV0 {ma:Bool}{a:Expr}{ra:Sd→R D}{p:Pos}(hgl:Gl X "list")(hm:X.mg "list"=none)(ha:PEx X C W ma a ra)
  (hs:starEach [a] X.env=(false,eval a X.env)::starEach [] X.env):
  PFx X C W (.Call (.Name "list" p) [a] [] pos) (fun τ=>(ra τ).bind (o1 .lst)):=by
 refine(pe_callTy call_list_of hgl hm rfl (pa_cons ha pa_nil hs) (by decide) (by decide) hs rfl).aa7 fun σ H Q hh=> ?_
 obtain⟨O,τ,rs,hh⟩:=hh
 refine⟨O,τ,rs,Ans.step hh fun x v H1 e1 r1 z1=> ?_⟩
 cases x<;>try exact z1.elim
 ·obtain⟨b,vs,rfl,h1,_,h3,h4⟩:=Vd.a6S r1
  exact⟨b,vs,rfl,.inl h1,fun l hl=>z1 _ _ (ab2 hl) (aK6 e1 hl h3 h4)⟩
 ·obtain⟨b,vs,rfl,h1,_,h3,h4⟩:=Vd.a6T r1
  exact⟨b,vs,rfl,.inr h1,fun l hl=>z1 _ _ (ab2 hl) (aK6 e1 hl h3 h4)⟩
theorem bV2 {ma:Bool}{a:Expr}{ra:Sd→R D}{p:Pos}(hc:X.calm=true)(hu:X.A.units+64<cLine)(hgl:Gl X "sorted")(hm:X.mg "sorted"=none)(ha:PEx X C W ma a ra)
  (hs:starEach [a] X.env=(false,eval a X.env)::starEach [] X.env):
  PFx X C W (.Call (.Name "sorted" p) [a] [] pos) (fun τ=>(ra τ).bind (o1 .sorted)):=by
 refine(pe_callB (b8H hc hu) hgl hm (by decide+kernel) (pa_cons ha pa_nil hs) (by decide) (by decide) hs rfl).aa7 fun σ H Q hh=> ?_
 obtain⟨O,τ,rs,hh⟩:=hh
 refine⟨O,τ,rs,Ans.step hh fun x v H1 e1 r1 z1=> ?_⟩
 have key: ∀ds,o1 .sorted x=aE3 ds→ ∃d,o1 .sorted x= .ok (.list d):=fun ds e=>by
  rw[e]at z1 ⊢
  unfold aE3 at z1 ⊢
  split
  ·exact⟨_,rfl⟩
  ·rename_i h
   rw[if_neg h]at z1
   exact z1.elim
 obtain⟨d,hd⟩: ∃d,o1 .sorted x= .ok (.list d):=by
  cases x<;>first|exact z1.elim|exact key _ rfl
 rw[hd]at z1
 exact⟨O,v,x,d,rfl,(rs.mono e1).lst,ac0 r1,hd,fun q ws hq h3 h4=>z1 _ _ (ab2 hq) (aK6 e1 hq h3 h4)⟩
theorem bV3 {a b:Expr}{ra rb:Sd→R D}{pos:Pos}(ha:PEx X C W false a ra)(hb:PEx X C W false b rb):
  PFx X C W (.BinOp a .Add b pos) (fun τ=>(ra τ).bind fun x=>(rb τ).bind fun y=>o2 .cat x y):=by
 refine(pe_op ch0 ha hb).aa7 fun σ H Q hh=> ?_
 obtain⟨O,τ,rs,hh⟩:=hh
 refine⟨O,τ,rs,Ans.step hh fun x v H1 e1 r1 a1=>⟨O,τ,rs.mono e1,Ans.step a1 fun y u H2 e2 r2 a2=> ?_⟩⟩
 cases x<;>try exact a2.elim
 rename_i xs
 cases y<;>try exact a2.elim
 rename_i ys
 have r1':Vd X.K O H2 v (.list xs):=Vd.mono (show Vd X.K O H1 v (.list xs)from r1) e2.ex
 obtain⟨p,vs,rfl,s1,h1,z1⟩:=r1'.list
 obtain⟨q,ws,rfl,s2,h2,z2⟩:=(show Vd X.K O H2 u (.list ys)from r2).list
 by_cases hc:xs.length+ys.length≤sizeLine
 ·have a2':Ans C W O H2 σ (rF X.K O H) Q (if xs.length+ys.length≤sizeLine then R.ok (PyData.list (xs++ys))else R.no):=a2
  rw[if_pos hc]at a2'
  exact⟨p,q,vs,ws,rfl,rfl,s1,s2,by have:=h1.length;have:=h2.length;omega,fun r hr=>a2' _ _ (ab2 hr) (aK6 (e1.trans e2) hr (h1.append h2) (by simpa using hc))⟩
 ·have a2':Ans C W O H2 σ (rF X.K O H) Q (if xs.length+ys.length≤sizeLine then R.ok (PyData.list (xs++ys))else R.no):=a2
  rw[if_neg hc]at a2'
  exact a2'.elim
end
end Fz
namespace Fz
open PySem PySem.Spec L2
variable [aa0] [FnT]
section
variable {K:Fr'} {O:List Addr} {H H':Hp} {σ:St} {τ:Sd}
theorem RS.a3d (r:RS K O H σ τ)(i:Nat)(w:Option V):RS K O H (σ.set i w) (τ.set i none):=by
 have key: ∀ {j:Nat} {z:Sv},(τ.set i none)[j]? =some (some z)→j≠i∧τ[j]? =some (some z):=fun {j z} e=>by
  rcases get_set e with⟨_,z,_⟩|h
  ·cases z
  ·exact h
 refine⟨r.tab,by simp[r.len],r.lst,fun j d' e=> ?_,fun j xs e=> ?_,fun j kvs e=> ?_,fun j k a x y hjk ox oy e1 e2 e3 e4=> ?_,fun j g e=>(by
  obtain⟨hj,e⟩:=key e
  rw[List.getElem?_set_ne (Ne.symm hj)];exact r.fnc j g e),fun j g e=>(by
  obtain⟨hj,e⟩:=key e
  rw[List.getElem?_set_ne (Ne.symm hj)];exact r.plv j g e),r.sto.sub (fun j d' e=>by
  obtain⟨hj,e⟩:=key e
  exact⟨e,List.getElem?_set_ne (Ne.symm hj)⟩) (fun j x a ox e q=>by
  obtain⟨hj,e⟩:=key e
  rw[List.getElem?_set_ne (Ne.symm hj)]at q
  exact .inl ⟨j,x,ox,e,q⟩) (fun b u q d hO _=>⟨hO,q⟩) (Ex.refl _)⟩
 ·obtain⟨hj,e⟩:=key e
  rw[List.getElem?_set_ne (Ne.symm hj)]
  exact r.val j d' e
 ·obtain⟨hj,e⟩:=key e
  rw[List.getElem?_set_ne (Ne.symm hj)]
  exact r.own j xs e
 ·obtain⟨hj,e⟩:=key e
  rw[List.getElem?_set_ne (Ne.symm hj)]
  exact r.dct j kvs e
 ·obtain⟨hj,e1⟩:=key e1
  obtain⟨hk,e2⟩:=key e2
  rw[List.getElem?_set_ne (Ne.symm hj)]at e3
  rw[List.getElem?_set_ne (Ne.symm hk)]at e4
  exact r.sep j k a x y hjk ox oy e1 e2 e3 e4
def bV6 (K:Fr')(O:List Addr)(H:Hp)(a:Addr)(ds:List D):Prop:= ∃vs,H a=some (.lst vs)∧aa1 K (hide H O) vs ds∧ds.length≤sizeLine
structure Bk (K:Fr')(O:List Addr)(H:Hp)(σ:St)(τ:Sd)(i:Nat)(p:Addr)(as:List Addr)(rows:List (List D)):Prop where
 nd:(p::as).Nodup
 pO:p∈O
 aO: ∀a∈as,a∈O
 pt:H p=some (.lst (as.map .ref))
 slot:σ[i]? =some (some (.ref p))
 len:as.length=rows.length
 row: ∀(q:Nat) (a:Addr) (ds:List D),as[q]? =some a→rows[q]? =some ds→bV6 K O H a ds
 sep: ∀(j:Nat) (z:Sv) (b:Addr),j≠i→z.owned=true→τ[j]? =some (some z)→σ[j]? =some (some (.ref b))→b∉p::as
 ns: ∀(j:Nat) (d:D),τ[j]? ≠some (some (Sv.sto d))
theorem Bk.mono {i:Nat}{p:Addr}{as:List Addr}{rows:List (List D)}(b:Bk K O H σ τ i p as rows)(e:Same H H'):Bk K O H' σ τ i p as rows:=
 ⟨b.nd,b.pO,b.aO,e.lst b.pt,b.slot,b.len,fun q a ds h1 h2=>let⟨vs,g1,g2,g3⟩:=b.row q a ds h1 h2;⟨vs,e.lst g1,g2.mono (Same.hide e),g3⟩,b.sep,b.ns⟩
theorem Bk.done {i:Nat}{p:Addr}{as:List Addr}{rows:List (List D)}(r:RS K O H σ τ)(b:Bk K O H σ τ i p as rows)(hz:rows.length≤sizeLine):
  ∃O',RS K O' H σ (τ.set i (some (.own (rows.map .list))))∧ ∀a∈O',a∈O:=by
 have hs: ∀a∈O.filter (fun b=>decide (b∉as)),a∈O:=fun a ha=>(List.mem_filter.mp ha).1
 have out: ∀a∈as,a∉O.filter (fun b=>decide (b∉as)):=fun a ha z=>by
  have:=(List.mem_filter.mp z).2
  simp only[decide_eq_true_eq]at this
  exact this ha
 have keep: ∀ {a:Addr},a∈O→a∉as→a∈O.filter (fun b=>decide (b∉as)):=fun h1 h2=>List.mem_filter.mpr ⟨h1,by simpa using h2⟩
 have hp:p∉as:=(List.nodup_cons.mp b.nd).1
 have a7c:aa1 K (hide H (O.filter fun b=>decide (b∉as))) (as.map .ref) (rows.map .list):=by
  have: ∀(as':List Addr) (rows':List (List D)),(∀a∈as',a∈as)→as'.length=rows'.length→(∀(q:Nat) (a:Addr) (ds:List D),as'[q]? =some a→rows'[q]? =some ds→bV6 K O H a ds)→
        aa1 K (hide H (O.filter fun b=>decide (b∉as))) (as'.map .ref) (rows'.map .list):=by
   intro as'
   induction as' with
   |    nil=>intro rows' _ hl _;cases rows' with
        |nil=>exact .nil
        |cons _ _=>simp at hl
   |    cons a as' ih=>
        intro rows' hm hl hr
        cases rows' with
        |nil=>simp at hl
        |cons ds rows'=>
         obtain⟨vs,g1,g2,g3⟩:=hr 0 a ds rfl rfl
         refine .cons (.lst (.of (by rw[ac1 (out a (hm a (by simp)))];exact g1)) (g2.mono (ah4 hs).ex) g3) (ih rows' (fun x hx=>hm x (by simp[hx])) (by simpa using hl) fun q a ds h1 h2=>hr (q+1) a ds (by simpa using h1) (by simpa using h2))
  exact this as rows (fun a h=>h) b.len b.row
 refine⟨O.filter (fun b=>decide (b∉as)),⟨r.tab,by simp[r.len],fun a ha=>r.lst a (hs a ha),fun j d' e=> ?_,fun j zs e=> ?_,fun j zs e=> ?_,fun j k a z z' hjk oz oz' e1 e2 e3 e4=> ?_,fun j g e=>(by
  rcases get_set e with⟨_,z,_⟩|⟨hj,e⟩
  ·cases z
  ·exact⟨(r.fnc j g e).1,FnT.mono g _ _ (ah4 hs).ex (r.fnc j g e).2⟩),fun j g e=>(by
  rcases get_set e with⟨_,z,_⟩|⟨hj,e⟩
  ·cases z
  ·obtain⟨v,h1,h2⟩:=r.plv j g e
   exact⟨v,h1,h2.mono (ah4 hs).ex⟩),.none fun j d e=>by
  rcases get_set e with⟨_,z,_⟩|⟨_,e⟩
  ·cases z
  ·exact b.ns j d e⟩,hs⟩
 ·rcases get_set e with⟨_,z,_⟩|⟨hj,e⟩
  ·cases z
  ·obtain⟨v,q1,q2⟩:=r.val j d' e
   exact⟨v,q1,q2.mono (ah4 hs).ex⟩
 ·rcases get_set e with⟨rfl,z,_⟩|⟨hj,e⟩
  ·cases z
   exact⟨p,_,b.slot,keep b.pO hp,b.pt,a7c,by simpa using hz⟩
  ·obtain⟨a,ws,q1,q2,q3,q4,q5⟩:=r.own j zs e
   exact⟨a,ws,q1,keep q2 fun w=>b.sep j _ a hj rfl e q1 (List.mem_cons_of_mem _ w),q3,q4.mono (ah4 hs).ex,q5⟩
 ·rcases get_set e with⟨_,z,_⟩|⟨hj,e⟩
  ·cases z
  ·obtain⟨a,q1,q2⟩:=r.dct j zs e
   exact⟨a,q1,q2.over (keep q2.1 fun w=>b.sep j _ a hj rfl e q1 (List.mem_cons_of_mem _ w)) rfl (ah4 hs).ex⟩
 ·rcases get_set e1 with⟨h1,z1,_⟩|⟨hj,e1⟩
  ·rcases get_set e2 with⟨h2,_,_⟩|⟨hk,e2⟩
   ·exact hjk (h1.trans h2.symm)
   ·    rw[h1,b.slot]at e3
        cases e3
        exact b.sep k _ _ hk oz' e2 e4 List.mem_cons_self
  ·rcases get_set e2 with⟨h2,z2,_⟩|⟨hk,e2⟩
   ·    rw[h2,b.slot]at e4
        cases e4
        exact b.sep j _ _ hj oz e1 e3 List.mem_cons_self
   ·exact r.sep j k a z z' hjk oz oz' e1 e2 e3 e4
end
end Fz
namespace Fz
open PySem PySem.Spec L2 PyProof.Rows
def mkOf (MK:List D→R (List D→R D)):D→R (List D→R D)
 | .tuple ds=>MK ds
 |_=> .no
def cv0 (MK:List D→R (List D→R D))(ML:List (List D→R D)→List D→R D):List D→R D
 | .list rows::as=>(mapR (mkOf MK) rows).bind fun ms=>ML ms as
 |_=> .no
variable [aa0]
def FnC (P:Program)(w:World)(K:Fr')(mg:Str→Option Value)(base:Heap)(lv kl:Nat)(x:Str)(mk:List D→R (List D→R D)):Prop:=
 ∃  f:Addr,mg x=some (.ref f)∧PySem.W.keepIn K (.ref f)=true∧(x==("__debug__":Str))=false∧
    ∀(A:Around) (outer:List Env) (s:Shared) (H:Hp) (us:List Value) (vs:List V) (ds:List D) (m:List D→R D) (Q:VK) (E:XK),Room (lv+1) A→Env0 P w K mg base A outer s H→LamX.Tabs aa0.T H→Vals vs us→aa1 K H vs ds→mk ds= .ok m→
     (∀(g:Clo) (H':Hp),Same H H'→ag7 P w K mg base kl g→g.ok H'→g.m=m→Q (.ref g.f) H')→codeAny (model P w) A (.call (.ref f) ⟨us,[]⟩) (CR (L2.CX P w) outer P w H s Q E) s
def FnL (P:Program)(w:World)(K:Fr')(mg:Str→Option Value)(base:Heap)(lv kl:Nat)(y:Str)(nd:Nat)(ML:List (List D→R D)→List D→R D):Prop:=
 ∃  f:Addr,mg y=some (.ref f)∧PySem.W.keepIn K (.ref f)=true∧(y==("__debug__":Str))=false∧
    ∀(A:Around) (outer:List Env) (s:Shared) (H:Hp) (us:List Value) (vds:List V) (ds:List D) (a:Addr) (gs:List Clo) (d:D) (Q:VK) (E:XK),Room (lv+1) A→Env0 P w K mg base A outer s H→LamX.Tabs aa0.T H→Vals (vds++[V.ref a]) us→aa1 K H vds ds→
     ds.length=nd→H a=some (.lst (gs.map fun g=>V.ref g.f))→gs.length≤sizeLine→(∀g∈gs,ag7 P w K mg base kl g∧g.ok H)→ML (gs.map (·.m)) ds= .ok d→(∀v H',Same H H'→Rp K H' v d→Q v H')→codeAny (model P w) A (.call (.ref f) ⟨us,[]⟩) (CR (L2.CX P w) outer P w H s Q E) s
def cv1 (X:Cx)(x y:Str)(nd:Nat)(φ:List D→R D):Prop:= ∃lv kl MK ML,Room (lv+1) X.A∧FnC X.prog X.w X.K X.mg X.base lv kl x MK∧FnL X.prog X.w X.K X.mg X.base lv kl y nd ML∧φ=cv0 MK ML
section
variable [FnT] {X:Cx} {C:Nat→Addr} {W:WX}
def a7L (X:Cx)(kl:Nat)(O:List Addr)(H:Hp)(p:Addr)(gs:List Clo):Prop:=H p=some (.lst (gs.map fun g=>V.ref g.f))∧(∀g∈gs,ag7 X.prog X.w X.K X.mg X.base kl g∧g.ok (hide H (p::O)))
theorem a7L.mono {kl:Nat}{O:List Addr}{H H':Hp}{p:Addr}{gs:List Clo}(h:a7L X kl O H p gs)(e:Same H H'):a7L X kl O H' p gs:=
 ⟨e.lst h.1,fun g hg=>⟨(h.2 g hg).1,(h.2 g hg).1.mono _ _ (Same.hide e) (h.2 g hg).2⟩⟩
theorem b61 {α:Type}{r:R α}{a:α}(h:r= .ok a):r.calm= .ok a:=by rw[h];rfl
end
end Fz
namespace Fz
open PySem PySem.Spec L2 PyProof.Rows
variable [aa0] [FnT]
section
variable {K:Fr'} {O:List Addr} {H:Hp} {σ:L2.St} {τ:Sd}
structure StV (K:Fr')(O:List Addr)(H:Hp)(σ:L2.St)(τ:Sd)(i:Nat)(q:Addr→Prop)(a dx ka la ua:Addr)(od:Obj)(sv:V)(sd:D)(nx:Int)(kvs:List (D×D))(ls us:List V)(ds es:List D):Prop where
 slot:σ[i]? =some (some (.ref a))
 nd:[a,dx,ka,la,ua].Nodup
 inO: ∀b∈[a,dx,ka,la,ua],q b∧b∈O
 ha:H a=some (setAt a (PySem.W.instObj aa0.sc dx))
 hdx:H dx=some (setAt dx od)
 dct:aE7 od
 ar:a2b od (bz9 sv nx ka la ua)
 rp:Rp K (hide H O) sv sd
 kept:ar0 K O H ka kvs
 hla:H la=some (.lst ls)
 rla:aa1 K (hide H O) ls ds
 zla:ds.length≤sizeLine
 hua:H ua=some (.lst us)
 rua:aa1 K (hide H O) us es
 zua:es.length≤sizeLine
 upS: ∀(O3:List Addr) (H3:Hp) (st':D),ab3 H3 O3→LamX.Tabs aa0.T H3→Ex (hide H O) (hide H3 O3)→(∀(b:Addr) (u:HO),b∈O→H b=some u→Hid b u→ ¬q b→b∈O3∧H3 b=some u)→ad6 K O3 H3 a st' (fun b=>q b∨Fr H b)→RS K O3 H3 σ (τ.set i (some (.sto st')))
variable {i:Nat} {q:Addr→Prop} {a dx ka la ua:Addr} {od:Obj} {sv:V} {sd:D} {nx:Int} {kvs:List (D×D)} {ls us:List V} {ds es:List D}
theorem StV.ne (v:StV K O H σ τ i q a dx ka la ua od sv sd nx kvs ls us ds es):(dx≠a)∧(ka≠a∧ka≠dx)∧(la≠a∧la≠dx∧la≠ka)∧(ua≠a∧ua≠dx∧ua≠ka∧ua≠la):=by
 have nd:=v.nd
 simp only[List.nodup_cons,List.mem_cons,List.not_mem_nil,or_false,not_or]at nd
 obtain⟨⟨n1,n2,n3,n4⟩,⟨n5,n6,n7⟩,⟨n8,n9⟩,n10,_⟩:=nd
 exact⟨Ne.symm n1,⟨Ne.symm n2,Ne.symm n5⟩,⟨Ne.symm n3,Ne.symm n6,Ne.symm n8⟩,⟨Ne.symm n4,Ne.symm n7,Ne.symm n9,Ne.symm n10⟩⟩
theorem StV.mono {H':Hp}(v:StV K O H σ τ i q a dx ka la ua od sv sd nx kvs ls us ds es)(e:Ex H H'):StV K O H' σ τ i q a dx ka la ua od sv sd nx kvs ls us ds es:=
 ⟨v.slot,v.nd,v.inO,e _ _ v.ha (fun _ z=>by cases z),e _ _ v.hdx (fun _ z=>by cases z),v.dct,v.ar,v.rp.mono e.hide,v.kept.mono e,e.lst v.hla,v.rla.mono e.hide,v.zla,e.lst v.hua,v.rua.mono e.hide,v.zua,
  fun O3 H3 st' L T ex kp sa=>v.upS O3 H3 st' L T (e.hide.trans ex) (fun b u hb q d nq=>kp b u hb (e.hid q d) d nq) (sa.imp fun b hb=>hb.imp id fun f=>e.free f)⟩
theorem bV7 {O:List Addr}{H:Hp}(L:ab3 H O){b:Addr}{u:HO}(d:Hid b u):ab3 (upd H b u) O:=fun c hc=>by
 by_cases e:c=b
 ·subst e;exact⟨u,upd_same,d⟩
 ·obtain⟨w,g1,g2⟩:=L c hc
  exact⟨w,by rw[upd_ne e];exact g1,g2⟩
theorem StV.done (v:StV K O H σ τ i q a dx ka la ua od sv sd nx kvs ls us ds es)(r:RS K O H σ τ){ls':List V}{ds':List D}(rl:aa1 K (hide H O) ls' ds')(hz:ds'.length≤sizeLine):RS K O (upd H la (.lst ls')) σ (τ.set i (some (.sto (a6l sd nx kvs ds' es)))):=by
 obtain⟨n1,⟨n2,n3⟩,⟨n4,n5,n6⟩,n7,n8,n9,n10⟩:=v.ne
 have hO:=(v.inO la (by simp)).2
 have hh:hide (upd H la (.lst ls')) O=hide H O:=ay3 hO
 refine v.upS O _ _ (bV7 r.lst (.inl ⟨_,rfl⟩)) (a1Z v.hla (.inl ⟨_,rfl⟩) r.tab) (by rw[hh];exact Ex.refl _) (fun b u hb e d nq=>⟨hb,by rw[upd_ne fun w=>nq (by rw[w];exact(v.inO la (by simp)).1)];exact e⟩) ?_
 exact⟨dx,ka,la,ua,od,sv,sd,nx,kvs,ls',us,ds',es,rfl,v.nd,fun b hb=>⟨.inl (v.inO b hb).1,(v.inO b hb).2⟩,by rw[upd_ne (Ne.symm n4)];exact v.ha,by rw[upd_ne (Ne.symm n5)];exact v.hdx,v.dct,v.ar,by rw[hh];exact v.rp,v.kept.over v.kept.1 (upd_ne (Ne.symm n6)) (by rw[hh];exact Ex.refl _),⟨upd_same,by rw[hh];exact rl,hz⟩,by rw[upd_ne n10];exact v.hua,by rw[hh];exact v.rua,v.zua⟩
theorem StV.undone (v:StV K O H σ τ i q a dx ka la ua od sv sd nx kvs ls us ds es)(r:RS K O H σ τ){us':List V}{es':List D}(rl:aa1 K (hide H O) us' es')(hz:es'.length≤sizeLine):RS K O (upd H ua (.lst us')) σ (τ.set i (some (.sto (a6l sd nx kvs ds es')))):=by
 obtain⟨n1,⟨n2,n3⟩,⟨n4,n5,n6⟩,n7,n8,n9,n10⟩:=v.ne
 have hO:=(v.inO ua (by simp)).2
 have hh:hide (upd H ua (.lst us')) O=hide H O:=ay3 hO
 refine v.upS O _ _ (bV7 r.lst (.inl ⟨_,rfl⟩)) (a1Z v.hua (.inl ⟨_,rfl⟩) r.tab) (by rw[hh];exact Ex.refl _) (fun b u hb e d nq=>⟨hb,by rw[upd_ne fun w=>nq (by rw[w];exact(v.inO ua (by simp)).1)];exact e⟩) ?_
 exact⟨dx,ka,la,ua,od,sv,sd,nx,kvs,ls,us',ds,es',rfl,v.nd,fun b hb=>⟨.inl (v.inO b hb).1,(v.inO b hb).2⟩,by rw[upd_ne (Ne.symm n7)];exact v.ha,by rw[upd_ne (Ne.symm n8)];exact v.hdx,v.dct,v.ar,by rw[hh];exact v.rp,v.kept.over v.kept.1 (upd_ne (Ne.symm n9)) (by rw[hh];exact Ex.refl _),⟨by rw[upd_ne (Ne.symm n10)];exact v.hla,by rw[hh];exact v.rla,v.zla⟩,upd_same,by rw[hh];exact rl,hz⟩
end
section
variable {K:Fr'} {O:List Addr} {H:Hp}
theorem ac3.of: ∀ {xs:List (Key×Value)} {kvs:List (D×D)} {vs:List V},xs.map (fun x=>kD x.1)=kvs.map (·.1)→aa1 K H (xs.map fun x=>kV x.1) (kvs.map (·.1))→Vals vs (xs.map (·.2))→aa1 K H vs (kvs.map (·.2))→ac3 K H xs kvs
 | [],[],_,_,_,_,_=> .nil
 | [],_::_,_,h,_,_,_=>by simp at h
 |_::_,[],_,h,_,_,_=>by simp at h
 |(k,   u)::xs,(d,e)::kvs,_,h,r1,r2,r3=>by
  simp only[List.map_cons,List.cons.injEq]at h
  obtain⟨h1,h⟩:=h
  subst h1
  cases r1 with
  |cons a r1=>
   cases r2 with
   |    cons b r2=>
        cases r3 with
        |cons c r3=>exact .cons a b c (ac3.of h r1 r2 r3)
theorem ac3.fd {xs:List (Key×Value)}{kvs:List (D×D)}{a:Addr}{o:Obj}(h:ac3 K (hide H O) xs kvs)(hO:a∈O)(q:H a=some (setAt a o))(ns:(a==sysModules)=false)(raw:ak8 o xs)(sz:kvs.length≤sizeLine):ar0 K O H a kvs:=by
 obtain⟨vs,h1,h2⟩:=h.vals
 exact⟨hO,o,xs,vs,q,ns,raw,h.keys,h.rk,h1,h2,sz⟩
variable {σ:L2.St} {τ:Sd} {i:Nat} {q:Addr→Prop} {a dx ka la ua:Addr} {od:Obj} {sv:V} {sd:D} {nx:Int} {kvs:List (D×D)} {ls us:List V} {ds es:List D}
end
end Fz
namespace Fz
open PySem PySem.Spec L2 PyProof.Rows
variable [aa0] [FnT]
section
variable {X:Cx} {C:Nat→Addr} {W:WX}
def a7N (K:Fr')(C:Nat→Addr)(W:WX)(i:Nat)(O:List Addr)(H:Hp)(σ:L2.St)(τ:Sd)(Q:VK):R D→Prop
 | .ok (.tuple [st,d])=> ∀v O' H',RS K O' H' σ (τ.set i (some (.sto st)))→Same (hide H O) (hide H' O')→Rp K (hide H' O') v d→Q v H'
 | .ex c=> ∀H',Same (hide H O) H'→W (.ref (C c)) none σ H'
 |_=>False
theorem a7N.mono {K:Fr'}{i:Nat}{O:List Addr}{H H1:Hp}{σ:L2.St}{τ:Sd}{Q:VK}{r:R D}(h:a7N K C W i O H σ τ Q r)(L:ab3 H O)(e:Same H H1):a7N K C W i O H1 σ τ Q r:=by
 have eh:=e.ag6 L
 cases r with
 |ok y=>
  match y,h with
  | .tuple [st',d],h=>exact fun v O' H' rs s=>h v O' H' rs (eh.trans s)
  | .none,h=>exact h.elim
  | .bool _,h=>exact h.elim
  | .int _,h=>exact h.elim
  | .str _,h=>exact h.elim
  | .list _,h=>exact h.elim
  | .dict _,h=>exact h.elim
  | .tuple [],h=>exact h.elim
  | .tuple [_],h=>exact h.elim
  | .tuple (_::_::_::_),h=>exact h.elim
 |ex c=>exact fun H' s=>h H' (eh.trans s)
 |no=>exact h
end
end Fz
namespace Fz
open PySem PySem.Spec L2 PyProof.Rows
def a7P [aa0](K:Fr')(C:Nat→Addr)(W:WX)(O:List Addr)(H:Hp)(σ:L2.St)(Q:VK):R D→Prop
 | .ok st=> ∀b H' P,ab3 H' P→(∀c∈P,Fr H c)→ad6 K (P++O) H' b st (fun c=>c∈P)→Same H H'→Q (.ref b) H'
 | .ex c=> ∀H',Same (hide H O) H'→W (.ref (C c)) none σ H'
 | .no=>False
section
variable [aa0] [FnT] {X:Cx} {C:Nat→Addr} {W:WX}
theorem a7P.mono {K:Fr'}{O:List Addr}{H H1:Hp}{σ:L2.St}{Q:VK}{r:R D}(h:a7P K C W O H σ Q r)(L:ab3 H O)(e:Same H H1):a7P K C W O H1 σ Q r:=by
 cases r with
 |ok st=>exact fun b H' P L' f s e'=>h b H' P L' (fun c hc=>e.ex.free (f c hc)) s (e.trans e')
 |ex c=>exact fun H' s=>h H' ((e.ag6 L).trans s)
 |no=>exact h
end
end Fz
namespace Fz
open PySem PySem.Spec L2
def a3e:Expr→Bool
 | .ListComp .. =>true
 | .SetComp .. =>true
 | .DictComp .. =>true
 |_=>false
def aV0:Expr→Bool
 | .Tuple .. =>true
 | .List .. =>true
 |_=>false
theorem bV8 {x:Expr}{t:Option Expr}{l:Nat}{env:Env}(h:a3e x=false):swapsWith x t l env=pure false:=by
 cases x<;>first|rfl|(cases h)
theorem cv3 {x:Expr}{es:List Expr}{k:Nat}{p:Pos}{l:Nat}{env:Env}:swapsWith x (some (.Tuple es k p)) l env=pure false:=by
 cases x<;>rfl
theorem st_no {tg x:Expr}{env:Env}(h:aV0 tg=false∨aV0 x=false):swappedStores [tg] x env=pure none:=by
 rcases h with h|h
 ·cases tg<;>first|rfl|(cases h)
 ·cases x<;>first|(cases tg<;>rfl)|(cases h)
def isStar:Expr→Bool
 | .Starred .. =>true
 |_=>false
theorem aV2 {a:Expr}(h:ab6 a=true):isStar a=false:=by
 cases a<;>first|rfl|(cases h)
def fmN (env:Env)(l:Nat)(t:Expr):Option Str:=match t with
 | .Name id pos=>if(env.kindOf id==some .local&&pos.line==l)=true then some id else none
 |_=>none
theorem aV3 {env:Env}{x:Str}{p:Pos}{l:Nat}(h:env.kindOf x=some .local)(hl:(p.line==l)=true):fmN env l (.Name x p)=some x:=by
 show(if(env.kindOf x==some .local&&p.line==l)=true then some x else none)=some x
 rw[h,hl];rfl
theorem cv4 {x y:Str}(h:(x==y)=false):[x,y].eraseDups=[x,y]:=by
 have h':(y==x)=false:=by rw[beq_eq_false_iff_ne]at h ⊢;exact fun e=>h e.symm
 simp[List.eraseDups_cons,h',h]
theorem cv7 {x y z:Str}(h:(x==y)=false)(h1:(x==z)=false)(h2:(y==z)=false):[x,y,z].eraseDups=[x,y,z]:=by
 have h':(y==x)=false:=by rw[beq_eq_false_iff_ne]at h ⊢;exact fun e=>h e.symm
 have h1':(z==x)=false:=by rw[beq_eq_false_iff_ne]at h1 ⊢;exact fun e=>h1 e.symm
 have h2':(z==y)=false:=by rw[beq_eq_false_iff_ne]at h2 ⊢;exact fun e=>h2 e.symm
 simp[List.eraseDups_cons,h',h,h1',h2']
theorem sw2 {x y:Str}{px py pt pt2:Pos}{kt k2:Nat}{a b:Expr}{env:Env}(hk:env.scope.kind= .function)(hx:env.scope.names.lookup x=some .local)(hy:env.scope.names.lookup y=some .local)(hl:(py.line==px.line)=true)(hxy:(x==y)=false)
  (na:ab6 a=true) (nb:ab6 b=true) (hf:[a,b].all (foldedForSure 8)=false) (hc:[a,b].all (constantsAlone 8)=false):
  swappedStores [.Tuple [.Name x px,.Name y py] kt pt] (.Tuple [a,b] k2 pt2) env=pure (some [x,y]):=by
 have kx:env.kindOf x=some .local:=hx
 have ky:env.kindOf y=some .local:=hy
 have hb:env.blockKind= .function:=by unfold Env.blockKind;rw[hk];rfl
 unfold swappedStores
 have hfm:List.filterMap (fmN env px.line) [Expr.Name x px,.Name y py]=[x,y]:=by
  rw[List.filterMap_cons_some (aV3 kx (by simp)),List.filterMap_cons_some (aV3 ky hl)];rfl
 simp only[hb,hf,hc]
 refine(if_neg (fun h=>Bool.noConfusion (show false=true from h))).trans ((if_neg fun h=> ?_).trans ((if_neg fun h=> ?_).trans ?_))
 ·have h':(isStar a||(isStar b||false))=true:=h
  rw[aV2 na,aV2 nb]at h'
  cases h'
 ·have h':((List.filterMap (fmN env px.line) [Expr.Name x px,.Name y py]).length !=2||(List.filterMap (fmN env px.line) [Expr.Name x px,.Name y py]).eraseDups.length !=(List.filterMap (fmN env px.line) [Expr.Name x px,.Name y py]).length)=true:=h
  rw[hfm,cv4 hxy]at h'
  cases h'
 ·exact congrArg (fun l=>(pure (some l):Sem (Option (List Str)))) hfm
theorem sw3 {x y z:Str}{px py pz pt pt2:Pos}{kt k2:Nat}{a b c:Expr}{env:Env}(hk:env.scope.kind= .function)(hx:env.scope.names.lookup x=some .local)(hy:env.scope.names.lookup y=some .local)(hz:env.scope.names.lookup z=some .local)(hl:(py.line==px.line)=true)(hl2:(pz.line==px.line)=true)(hxy:(x==y)=false)(hxz:(x==z)=false)(hyz:(y==z)=false)
  (na:ab6 a=true) (nb:ab6 b=true) (nc:ab6 c=true) (hf:[a,b,c].all (foldedForSure 8)=false) (hc:[a,b,c].all (constantsAlone 8)=false):
  swappedStores [.Tuple [.Name x px,.Name y py,.Name z pz] kt pt] (.Tuple [a,b,c] k2 pt2) env=pure (some [x,y,z]):=by
 have kx:env.kindOf x=some .local:=hx
 have ky:env.kindOf y=some .local:=hy
 have kz:env.kindOf z=some .local:=hz
 have hb:env.blockKind= .function:=by unfold Env.blockKind;rw[hk];rfl
 unfold swappedStores
 have hfm:List.filterMap (fmN env px.line) [Expr.Name x px,.Name y py,.Name z pz]=[x,y,z]:=by
  rw[List.filterMap_cons_some (aV3 kx (by simp)),List.filterMap_cons_some (aV3 ky hl),List.filterMap_cons_some (aV3 kz hl2)];rfl
 simp only[hb,hf,hc]
 refine(if_neg (fun h=>Bool.noConfusion (show false=true from h))).trans ((if_neg fun h=> ?_).trans ((if_neg fun h=> ?_).trans ?_))
 ·have h':(isStar a||(isStar b||(isStar c||false)))=true:=h
  rw[aV2 na,aV2 nb,aV2 nc]at h'
  cases h'
 ·have h':((List.filterMap (fmN env px.line) [Expr.Name x px,.Name y py,.Name z pz]).length !=3||(List.filterMap (fmN env px.line) [Expr.Name x px,.Name y py,.Name z pz]).eraseDups.length !=(List.filterMap (fmN env px.line) [Expr.Name x px,.Name y py,.Name z pz]).length)=true:=h
  rw[hfm,cv7 hxy hxz hyz]at h'
  cases h'
 ·exact congrArg (fun l=>(pure (some l):Sem (Option (List Str)))) hfm
def aG5 (c:Cfg)(i:Nat)(x:Str):Bool:=decide (c.N[i]? =some x)&&(match c.sc.names.lookup x with|some .local=>true|_=>false)
def aV4 (c:Cfg):Bool:=match c.sc.kind with| .function=>true|_=>false
def cv8:Expr→Bool
 | .Call .. =>true
 |_=>false
def ap9 (c:Cfg)(i:Nat)(x:Str):Bool:=decide (c.N[i]? =some x)&&decide (x∈c.st)
def ckC (c:Cfg)(g:Tg)(s t e:E):Expr→Bool
 | .ListComp elt [⟨tg,iter,ifs,0⟩] scope _=>(match tgB (c.blk scope) g tg with
  |     some own=>blkC c.N c.sc scope own&&decide (own.map (·.2)=g.slots)&&az1 iter&&ck c (.src false tg) s iter&&ck (c.blk scope) .str e elt&&(match ifs with
        | []=>a2U t
        | [y]=>ck (c.blk scope) .tst t y
        |_=>false)
  |none=>false)
 |_=>false
def ckF (c:Cfg)(e:E)(x:Expr):Bool:=match e with
 |  .lst es=>(match x with
    | .List xs _=>decide (xs.length≤sizeLine)&&ckL c es xs
    |_=>false)
 | .comp g s t b=>ckC c g s t b x
 |  .dct0=>(match x with
    | .Dict [] [] _=>true
    |_=>false)
 |  .dct1 k v=>(match x with
    | .Dict [some y] [z] _=>ck c .str k y&&ck c .str v z
    |_=>false)
 |  .u .dprs a=>(match x with
    | .Call (.Name n _) [y] [] _=>ac6 c "dict" n&&ab6 y&&ck c .pk a y
    |_=>false)
 |  .u .lst a=>(match x with
    | .Call (.Name n _) [y] [] _=>ac6 c "list" n&&ab6 y&&ck c .pk a y
    |_=>false)
 |  .u .sorted a=>(match x with
    | .Call (.Name n _) [y] [] _=>ac6 c "sorted" n&&ab6 y&&ck c .pk a y
    |_=>false)
 |  .call f es=>(match x with
    | .Call (.Name n _) (y::ys) [] _=>(match c.frs.lookup n with|some f'=>f==f'|none=>false)&&glB c n&&ckL c es (y::ys)
    |_=>false)
 |  .b .cat a b=>(match x with
    | .BinOp y .Add z _=>ck c .pk a y&&ck c .pk b z
    |_=>false)
 |  .u .lrng a=>(match x with
    | .Call (.Name n _) [.Call (.Name n2 _) [z] [] _] [] _=>ac6 c "list" n&&ac6 c "range" n2&&ab6 z&&ck c .pk a z
    |_=>false)
 |_=>false
def ckM (c:Cfg):List (Nat×Bool×E)→List Expr→Bool
 | [],[]=>true
 |(_,b,e)::l,x::xs=>ab6 x&&(if b=true then ckF c e x else ck c .str e x)&&ckM c l xs
 |_,_=>false
def tgN (c:Cfg):List Nat→List Expr→Bool
 | [],[]=>true
 |i::is,.Name x _::es=>ap9 c i x&&tgN c is es
 |_,_=>false
def fmC (c:Cfg)(l:Nat)(t:Expr):Option Str:=match t with
 | .Name id pos=>if(c.sc.names.lookup id==some .local&&pos.line==l)=true then some id else none
 |_=>none
def lineOf (ts:List Expr):Nat:=(ts.head?.map (·.pos.line)).getD 0
def bV9 (c:Cfg)(ts vs:List Expr):Bool:= !(ts.length==2||ts.length==3)||((ts.filterMap (fmC c (lineOf ts))).length !=ts.length)||vs.all (foldedForSure 8)
theorem cv9 {ts vs:List Expr}{k k2:Nat}{p p2:Pos}{env:Env}(h:(!(ts.length==2||ts.length==3)||((ts.filterMap (fmN env (lineOf ts))).length !=ts.length)||vs.all (foldedForSure 8))=true):
  swappedStores [.Tuple ts k p] (.Tuple vs k2 p2) env=pure none:=by
 unfold swappedStores
 dsimp only
 split
 ·rfl
 ·rename_i h1
  split
  ·rfl
  ·split
   ·rfl
   ·    rename_i h3
        split
        ·rfl
        ·rename_i h4
         exfalso
         have h3': ¬((ts.filterMap (fmN env (lineOf ts))).length !=ts.length||(ts.filterMap (fmN env (lineOf ts))).eraseDups.length !=(ts.filterMap (fmN env (lineOf ts))).length)=true:=h3
         have h4': ¬vs.all (foldedForSure 8)=true:=h4
         simp only[Bool.or_eq_true,not_or]at h h1 h3'
         rcases h with(h|h)|h
         ·exact h1.1.1 h
         ·exact h3'.1 h
         ·exact h4' h
def ckP (c:Cfg)(l:List (Nat×Bool×E))(tg y:Expr):Bool:=match tg,y with
 |  .Tuple ts _ _,.Tuple vs _ _=>aV4 c&&decide (l.length≤sizeLine)&&ckM c l vs&&((bV9 c ts vs&&tgN c (l.map (·.1)) ts)||(match l,ts,vs with
    | [(i,_),(j,_)],[.Name x px,.Name y py],[a,b]=>aG5 c i x&&aG5 c j y&&(py.line==px.line)&& !(x==y)&&decide (i≠j)&&ab6 a&&ab6 b&& !([a,b].all (foldedForSure 8))&& !([a,b].all (constantsAlone 8))
    | [(i,_),(j,_),(l,_)],[.Name x px,.Name y py,.Name z pz],[a,b,d]=>aG5 c i x&&aG5 c j y&&aG5 c l z&&(py.line==px.line)&&(pz.line==px.line)&& !(x==y)&& !(x==z)&& !(y==z)&&decide (i≠j)&&decide (i≠l)&&decide (j≠l)&&ab6 a&&ab6 b&&ab6 d&& !([a,b,d].all (foldedForSure 8))&& !([a,b,d].all (constantsAlone 8))
    |_,_,_=>false))
 |_,_=>false
mutual
def cs (c:Cfg):S→Stmt→Bool
 |  .ex e,x=>(match x with
    | .Expr y _=>cv8 y&&ck c .pk e y
    |_=>false)
 |  .set g e,x=>(match x with
    | .Assign [tg] y _=>(tgB c g tg).isSome&&(if a3e y=true then(match g,tg with
     | .one i,.Name n _=>aV4 c&&ckF c e y
     | .tup _,.Tuple _ _ _=> !aV0 y&&ck c .str e y
     |_,_=>false)else(!aV0 tg|| !aV0 y)&&ab6 tg&&ck c .str e y)
    |_=>false)
 |  .own i e,x=>(match x with
    | .Assign [.Name n _] y _=>ap9 c i n&&aV4 c&&ckF c e y
    |_=>false)
 |  .par l,x=>(match x with
    | .Assign [tg] y _=>ckP c l tg y
    |_=>false)
 | .reto ..,_=>false
 |  .ret e,x=>(match x with
    | .Return (some y) _=>ck c .str e y
    |_=>false)
 |  .ife t a b,x=>(match x with
    | .If y u v _=>ck c .tst t y&&css c a u&&css c b v
    |_=>false)
 |  .for_ g e b,x=>(match x with
    | .For tg it body [] _=>(tgB c g tg).isSome&&az1 it&&ck c (.src true tg) e it&&css c b body
    |_=>false)
 |  .whl t b,x=>(match x with
    | .While y body [] _=>ck c .tst t y&&css c b body
    |_=>false)
 | .app ..,_=>false
 |  .ext i e,x=>(match x with
    | .Expr (.Call (.Attribute (.Name n _) m apos) [y] [] cpos) _=>m==("extend":Str)&&an3 c i n&&ab6 y&&(apos.endLine==cpos.line)&&ck c .pk e y
    |_=>false)
 |  .raise k,x=>(match x with
    | .Raise (some (.Call (.Name n _) [.Constant (.str _) _ _] [] _)) none _=>(match c.exs.lookup n with|some k'=>k==k'|none=>false)&&glB c n
    |_=>false)
 | .pass ..,_=>false
 | .fz ..,_=>false
 | .dset ..,_=>false
 | .dupd ..,_=>false
 | .dpop ..,_=>false
 | .lpop ..,_=>false
 | .try_ ..,_=>false
 | .tryk ..,_=>false
 | .plv ..,_=>false
 | .plc ..,_=>false
 | .tcx ..,_=>false
 | .buck ..,_=>false
 | .gds ..,_=>false
 | .thl ..,_=>false
 | .st ..,_=>false
 | .top,_=>true
def css (c:Cfg):List S→List Stmt→Bool
 | [],xs=>xs.isEmpty
 |  s::ss,xs=>(match xs with
    | []=>false
    |x::r=>(match s,r with
     |_,_=>cs c s x&&css c ss r))
end
end Fz
namespace Fz
open PySem PySem.Spec L2 PyProof.Rows
variable [aa0] [FnT]
def aw8 {α:Type}(K:Fr')(C:Nat→Addr)(W:WX)(O:List Addr)(H:Hp)(σ:L2.St)(k:α→Sd→List Addr→Hp→Prop):R (α×Sd)→Prop
 | .ok p=> ∀O' H',RS K O' H' σ p.2→Same (hide H O) (hide H' O')→k p.1 p.2 O' H'
 | .ex c=> ∀H',Same (hide H O) H'→W (.ref (C c)) none σ H'
 | .no=>False
section
variable {α β:Type} {K:Fr'} {C:Nat→Addr} {W:WX} {O O1:List Addr} {H H1:Hp} {σ:L2.St}
theorem aw8.to {k:α→Sd→List Addr→Hp→Prop}{r:R (α×Sd)}(h:aw8 K C W O H σ k r)(s:Same (hide H O) (hide H1 O1)):aw8 K C W O1 H1 σ k r:=by
 cases r with
 |ok p=>exact fun O' H' rs q=>h O' H' rs (s.trans q)
 |ex c=>exact fun H' q=>h H' (s.trans q)
 |no=>exact h
theorem aw8.step {k:α→Sd→List Addr→Hp→Prop}{k1:β→Sd→List Addr→Hp→Prop}{r1:R (β×Sd)}{f:β×Sd→R (α×Sd)}(h:aw8 K C W O H σ k (r1.bind f))
  (hk: ∀b τ' O' H',RS K O' H' σ τ'→Same (hide H O) (hide H' O')→aw8 K C W O' H' σ k (f (b,τ'))→k1 b τ' O' H'):aw8 K C W O H σ k1 r1:=by
 cases r1 with
 |ok p=>exact fun O' H' rs q=>hk p.1 p.2 O' H' rs q (aw8.to (show aw8 K C W O H σ k (f p)from h) q)
 |ex c=>exact h
 |no=>exact h
end
def kV (K:Fr')(Q:VK):D→Sd→List Addr→Hp→Prop:=fun d _ O' H'=> ∀v,Rp K (hide H' O') v d→Q v H'
end Fz
namespace Fz
open PySem PySem.Spec L2 PyProof.Rows
variable [aa0] [FnT]
section
variable {X:Cx} {C:Nat→Addr} {W:WX} {x:Str} {i p:Nat} {q pos:Pos} {e:Expr} {es:List Expr} {rr:Sd→R (List D)} {m:List D→R D}
def a7R (K:Fr')(C:Nat→Addr)(W:WX)(O:List Addr)(H:Hp)(σ:L2.St)(Q:VK):R D→Prop
 | .ok d=> ∀v H',Same (hide H O) H'→Rp K H' v d→Q v H'
 | .ex c=> ∀H',Same (hide H O) H'→W (.ref (C c)) none σ H'
 | .no=>False
theorem a7R.to {K:Fr'}{O:List Addr}{H H1:Hp}{σ:L2.St}{Q:VK}{r:R D}(h:a7R K C W O H σ Q r)(s:Same (hide H O) (hide H1 O)):a7R K C W O H1 σ Q r:=by
 cases r with
 |ok d=>exact fun v H' q=>h v H' (s.trans q)
 |ex c=>exact fun H' q=>h H' (s.trans q)
 |no=>exact h
def tP (K:Fr')(C:Nat→Addr)(W:WX)(r:Sd→R Sv):TE:=fun σ H Q=> ∃O τ,RS K O H σ τ∧(match r τ with
 | .ok sv=> ∀v O' H',RS K O' H' σ τ→Same (hide H O) (hide H' O')→(∀j σ' τ',RS K O H σ' τ'→j<τ'.length→RS K O' H' (σ'.set j (some v)) (τ'.set j (some sv)))→Q v H'
 | .ex c=> ∀H',Same (hide H O) H'→W (.ref (C c)) none σ H'
 | .no=>False)
variable {e1 e2 e3:Expr} {r1 r2 r3:Sd→R Sv}
end
end Fz
namespace Fz
open PySem PySem.Spec L2 LamX PyProof.Rows
variable [aa0] [FnT]
abbrev a7S (X:Cx)(params:Arguments)(body:Expr)(scope:Scope)(pm ctv:Value)(c':Addr):Obj:=PySem.W.kla_obj "<lambda>" (X.env.qual++"<lambda>") params body scope (cloFrom X.env.cells scope.names []) pm c' ctv
section
variable {X:Cx} {pins:List (Addr×Obj)} {σ:L2.St} {H:Hp} {s:Shared} {scope:Scope} {params:Arguments} {body:Expr} {f c':Addr} {pm ctv:Value}
theorem cw0 {A:Around}{outer:List Env}{s1:Shared}{HZ:Hp}{E:XK}{Q:VK}{tb:TE}{k:Nat}(I:Inv X pins σ H s)(L:LamS X.env.scope scope)(hp:as9 params=true)(e0:Env0 X.prog X.w X.K X.mg X.base A outer s1 HZ)(un:Un (frs X.stack) [] H HZ s.heap s1.heap)(hr:Room (k+1) A)
  (hf:HZ f=some (setAt f (a7S X params body scope pm ctv c'))) (hc:HZ c'=some (CodeO c' (X.env.qual++"<lambda>")))
  (hb:Room k (A.deeper (lamEnv X scope s1.heap.objs.size f c'))→PE (lamCx X A outer s1 HZ E scope f c') body tb) (ht:tb σ HZ Q):
  codeAny (model X.prog X.w) A (.call (.ref f) ⟨[],[]⟩) (CR (L2.CX X.prog X.w) outer X.prog X.w HZ s1 Q E) s1:=by
 obtain⟨⟨oc,vs,t,g1,g2,g3⟩,_,_⟩:=e0.hok c' _ hc
 have hf1:s1.heap.get? f=some (a7S X params body scope pm ctv c'):=(e0.hok f _ hf).1
 have lim:s1.heap.NoLimit:=e0.mod.nolimit.keeps fun b o e=>(e0.bs b o e).1
 have hpar:params=⟨[],[],none,[],[],none,[]⟩:=by
  unfold as9 at hp
  split at hp
  ·rfl
  ·cases hp
 subst hpar
 refine PySem.W.kla_callFunE hr.depth hf1 rfl L.co L.gen rfl ⟨c',oc,vs,t,rfl,g1,g2,g3⟩ ?_
 refine wpAny_pure (wpAny_newFunctionEnv (fun y hy=>(L.own y hy).2) (fun y hy=>absurd hy (by simp)) (fun h₁ hns hsb=>⟨lim.fresh _ hsb,?_⟩) L.kind)
 have kp: ∀b o,s1.heap.get? b=some o→h₁.get? b=some o:=fun b o e=>hsb.extBut b o (Nat.ne_of_lt (Heap.lt_size e)) (Heap.get?_push_of_some _ e)
 have J:=lam_start2 (E:=E) (f:=f) (c':=c') (tk:=s1.toks+([]:List (Str×Value)).length) I L e0 hr.hd un hns kp
 refine PySem.W.kla_codeExpr (wpAny_mono ((hb (hr.deeper _)).run [] _ _ HZ Q J ht) (fun v s' hq=> ?_) fun e s' hq=>hq)
 obtain⟨w',H',J',rv,q⟩:=hq
 exact⟨w',H',J'.os,J'.bare,J'.base,J'.hok,rv,q⟩
end
end Fz
namespace Fz
open PySem PySem.Spec L2 LamX
variable [aa0] [FnT]
structure Tnk where
 f:Addr
 c':Addr
 params:Arguments
 body:Expr
 scope:Scope
 pm:Value
 ctv:Value
 r:Sd→R D
def Tnk.at (X:Cx)(t:Tnk)(H:Hp):Prop:=H t.f=some (setAt t.f (a7S X t.params t.body t.scope t.pm t.ctv t.c'))∧H t.c'=some (CodeO t.c' (X.env.qual++"<lambda>"))
structure Tnk.Ok (X:Cx)(C:Nat→Addr)(lv:Nat)(t:Tnk):Prop where
 L:LamS X.env.scope t.scope
 p:as9 t.params=true
 b: ∀(A:Around) (outer:List Env) (s:Shared) (H:Hp) (E:XK),Room lv (A.deeper (lamEnv X t.scope s.heap.objs.size t.f t.c'))→PEx (lamCx X A outer s H E t.scope t.f t.c') C (WE' E) true t.body t.r
theorem Tnk.at.mono {X:Cx}{t:Tnk}{H H':Hp}(h:t.at X H)(e:Ex H H'):t.at X H':=⟨e _ _ h.1 fun _ z=>by(cases z),e _ _ h.2 fun _ z=>codeO_ne _ z⟩
end Fz
namespace Fz
open PySem PySem.Spec L2 LamX
variable [aa0] [FnT]
def tLm (X:Cx)(params:Arguments)(body:Expr)(scope:Scope)(r:Sd→R D):TE:=fun σ H Q=>Tabs aa0.T H∧ ∀(f c':Addr) (pm ctv:Value) (H1:Hp),Same H H1→Tnk.at X ⟨f,c',params,body,scope,pm,ctv,r⟩ H1→Q (.ref f) H1
theorem cw4 {r:R D}(h:as4 r=true):r= .ok (.bool true):=by
 unfold as4 at h
 split at h
 ·rfl
 ·cases h
end Fz
namespace Fz
open PySem PySem.Spec L2
variable [aa0] [FnT]
structure ExF (X:Cx)(x:Str)(a:Addr):Prop where
 exc:PySem.W.excIn X.K a He.veBase "ValueError.__new__"=true
 mg:X.mg x=some (.ref a)
 kp:PySem.W.keepIn X.K (.ref a)=true
 sub:PySem.W.subIn X.K (.ref a) (.type "BaseException")=some true
 ty:PySem.W.typeIn X.K (.ref a)=some (.type "type")
 db:(x==("__debug__":Str))=false
def aa4 (K:Fr')(C:Nat→Addr)(t:Nat×List Nat×List (Nat×Nat)):Prop:= ∀c n,t.2.2.lookup c=some n→ ∃bs,Kit K (C c) (C t.1) (t.2.1.map C) bs∧a5w bs=some n
structure ax2 (X:Cx)(c:Cfg)(C:Nat→Addr)(Φ:Nat→List D→R D)(W:WX):Prop extends Good X c C Φ W where
 exs: ∀x k,c.exs.lookup x=some k→ExF X x (C k)
 own:PassesOwn (model X.prog X.w) X.A X.env X.xe
 stk:X.stack=X.env::X.outer
 frm:X.env.frame=some X.env.locals
 trs: ∀t∈c.trs,aa4 X.K C t
 gds: ∀id p,c.gds.lookup id=some p→cv1 X p.1 p.2.1 p.2.2 (Φ id)
section
variable {X:Cx} {c:Cfg} {C:Nat→Addr} {Φ:Nat→List D→R D} {W:WX} {F:Nat}
theorem fun_of (g:Good X c C Φ W)(h:aV4 c=true):X.env.scope.kind= .function:=by
 unfold aV4 at h
 rw[g.sc]
 split at h
 ·assumption
 ·cases h
theorem aV9 (g:Good X c C Φ W){i:Nat}{x:Str}(h:aG5 c i x=true):X.N[i]? =some x∧X.env.scope.names.lookup x=some .local:=by
 unfold aG5 at h
 simp only[Bool.and_eq_true,decide_eq_true_eq]at h
 obtain⟨h1,h2⟩:=h
 rw[←g.N]at h1
 rw[←g.sc]at h2
 split at h2
 ·exact⟨h1,by assumption⟩
 ·cases h2
theorem a3h (g:Good X c C Φ W){i:Nat}{x:Str}(h:ap9 c i x=true):Sto X x i:=by
 unfold ap9 at h
 simp only[Bool.and_eq_true,decide_eq_true_eq]at h
 obtain⟨z1,z2⟩:=g.sto x h.2
 exact⟨by rw[g.N];exact h.1,z1,z2⟩
theorem bW0 (g:Good X c C Φ W){f:Nat}{es:List E}{n:Str}{p pos:Pos}{y:Expr}{ys:List Expr}(h:((match c.frs.lookup n with|some f'=>f==f'|none=>false)&&glB c n&&ckL c es (y::ys))=true):
  PFx X C W (.Call (.Name n p) (y::ys) [] pos) (ev Φ (.call f es))∧True:=by
 simp only[Bool.and_eq_true]at h
 obtain⟨⟨h1,h2⟩,h3⟩:=h
 split at h1
 ·rename_i f' hl
  have e:f=f':=by simpa using h1
  subst e
  obtain⟨pa,hl2,hn⟩:=az4 (at5 C Φ es) g h3
  exact⟨cb3 (g.frs _ _ hl) (az2 g h2) g.tk pa (ab0 (hn y List.mem_cons_self)) (pl2 fun x hx=>hn x (List.mem_cons_of_mem _ hx)),trivial⟩
 ·cases h1
theorem bW1 (g:Good X c C Φ W){e:E}{y:Expr}{i:Nat}{x:Str}{p pos:Pos}(hs:Sto X x i)(hf:X.env.scope.kind= .function)(h:ckF c e y=true):
  ∃te,PS X (.Assign [.Name x p] y pos) (tAsg te (gName i))∧ ∀ {σ:St} {H:Hp} {Q:VK},tF X.K C W (ev Φ e) σ H Q→te σ H Q:=by
 unfold ckF at h
 split at h
 ·split at h
  ·rename_i es _ xs ps
   simp only[Bool.and_eq_true,decide_eq_true_eq]at h
   obtain⟨pa,hl,_⟩:=az4 (at5 C Φ es) g h.2
   have:=a6M (pos:=ps) pa h.1 (fun τ ds hd=>by rw[aU3 hd,hl])
   exact⟨_,ps_set g.nd hs.1 hs.2.1 this rfl hs.2.2,fun hh=>hh⟩
  ·cases h
 ·rename_i gt s t b
  unfold ckC at h
  split at h
  ·rename_i elt tg iter ifs scope ps
   split at h
   ·    rename_i own hT
        simp only[Bool.and_eq_true,decide_eq_true_eq]at h
        obtain⟨⟨⟨⟨⟨h1,h2⟩,h3⟩,h4⟩,h5⟩,h6⟩:=h
        obtain⟨q,pi,ok,pg,pt,pe⟩:=a7D (pos:=ps) (sound C Φ s) (sound C Φ t) (sound C Φ b) g hT h1 h2 h3 h4 h5 h6
        refine⟨_,?_,q⟩
        cases hsw:(X.env.kindOf x==some .local&&p.line==ps.line&& !(scope.names.any fun(n,k)=>n==x&&(k== .local||k== .cell)))with
        |true=>
         simp only[Bool.and_eq_true,Bool.not_eq_true']at hsw
         have hloc:X.env.scope.names.lookup x=some .local:=by have:=hsw.1.1;rw[beq_iff_eq]at this;exact this
         exact ps_setLc g.calm g.nd hs.1 hloc (sw_true hf hloc hsw.1.2 hsw.2) pi ok pg pt pe (aU2 h3)
        |false=>
         refine ps_set g.nd hs.1 hs.2.1 (pe_lc g.calm g.nd pi ok pg pt pe (aU2 h3)) ?_ hs.2.2
         have hb:X.env.blockKind= .function:=by unfold Env.blockKind;rw[hf];rfl
         have hsw':(X.env.blockKind== .function&&X.env.kindOf x==some .local&&p.line==ps.line&& !(scope.names.any fun(n,k)=>n==x&&(k== .local||k== .cell)))=false:=by
          rw[hb];exact hsw
         show(pure (X.env.blockKind== .function&&X.env.kindOf x==some .local&&p.line==ps.line&& !(scope.names.any fun(n,k)=>n==x&&(k== .local||k== .cell))):Sem Bool)=pure false
         rw[hsw']
   ·cases h
  ·cases h
 ·split at h
  ·exact⟨_,ps_set g.nd hs.1 hs.2.1 bN7 rfl hs.2.2,fun hh=>hh⟩
  ·cases h
 ·split at h
  ·simp only[Bool.and_eq_true]at h
   exact⟨_,ps_set g.nd hs.1 hs.2.1 (bO0 g.pw g.un (sound C Φ _ g .str _ h.1) (sound C Φ _ g .str _ h.2)) rfl hs.2.2,fun hh=>hh⟩
  ·cases h
 ·split at h
  ·simp only[Bool.and_eq_true]at h
   obtain⟨⟨h1,h3⟩,h4⟩:=h
   obtain⟨rfl,hg⟩:=ad0 g h1
   exact⟨_,ps_set g.nd hs.1 hs.2.1 (a7p g.pw g.calm g.un hg (g.free _ (by decide+kernel)) (show PEx X C W false _ (ev Φ _)from sound C Φ _ g .pk _ h4) (ab0 h3)) rfl hs.2.2,fun hh=>hh⟩
  ·cases h
 ·split at h
  ·simp only[Bool.and_eq_true]at h
   obtain⟨⟨h1,h3⟩,h4⟩:=h
   obtain⟨rfl,hg⟩:=ad0 g h1
   exact⟨_,ps_set g.nd hs.1 hs.2.1 (bV0 hg (g.free _ (by decide+kernel)) (show PEx X C W false _ (ev Φ _)from sound C Φ _ g .pk _ h4) (ab0 h3)) rfl hs.2.2,fun hh=>hh⟩
  ·cases h
 ·split at h
  ·simp only[Bool.and_eq_true]at h
   obtain⟨⟨h1,h3⟩,h4⟩:=h
   obtain⟨rfl,hg⟩:=ad0 g h1
   exact⟨_,ps_set g.nd hs.1 hs.2.1 (bV2 g.calm g.un hg (g.free _ (by decide+kernel)) (show PEx X C W false _ (ev Φ _)from sound C Φ _ g .pk _ h4) (ab0 h3)) rfl hs.2.2,fun hh=>hh⟩
  ·cases h
 ·split at h
  ·rename_i f es _ n p y ys pos
   obtain⟨pa,f1⟩:=bW0 g h
   exact⟨_,ps_set g.nd hs.1 hs.2.1 pa rfl hs.2.2,fun hh=>hh⟩
  ·cases h
 ·split at h
  ·simp only[Bool.and_eq_true]at h
   exact⟨_,ps_set g.nd hs.1 hs.2.1 (bV3 (show PEx X C W false _ (ev Φ _)from sound C Φ _ g .pk _ h.1) (show PEx X C W false _ (ev Φ _)from sound C Φ _ g .pk _ h.2)) rfl hs.2.2,fun hh=>hh⟩
  ·cases h
 ·split at h
  ·simp only[Bool.and_eq_true]at h
   obtain⟨⟨⟨h1,h2⟩,h3⟩,h4⟩:=h
   obtain⟨rfl,hg⟩:=ad0 g h1
   obtain⟨rfl,hg2⟩:=ad0 g h2
   exact⟨_,ps_set g.nd hs.1 hs.2.1 (bU9 g.calm hg (g.free _ (by decide+kernel)) hg2 (g.free _ (by decide+kernel)) (show PEx X C W false _ (ev Φ _)from sound C Φ _ g .pk _ h4) (ab0 h3)) rfl hs.2.2,fun hh=>hh⟩
  ·cases h
 ·cases h
abbrev a3i (C:Nat→Addr)(Φ:Nat→List D→R D)(F:Nat)(s:S):Prop:= ∀ {X:Cx} {c:Cfg} {W:WX},ax2 X c C Φ W→ ∀(x:Stmt),cs c s x=true→PSx X C W x (x1 Φ F s)
abbrev bW2 (C:Nat→Addr)(Φ:Nat→List D→R D)(F:Nat)(s:List S):Prop:= ∀ {X:Cx} {c:Cfg} {W:WX},ax2 X c C Φ W→ ∀(x:List Stmt),css c s x=true→ah6 X C W x (xs Φ F s)
theorem cw5 (g:Good X c C Φ W){e:E}{y:Expr}(h:ckF c e y=true):PFx X C W y (ev Φ e):=by
 unfold ckF at h
 split at h
 ·split at h
  ·rename_i es _ xs ps
   simp only[Bool.and_eq_true,decide_eq_true_eq]at h
   obtain⟨pa,hl,_⟩:=az4 (at5 C Φ es) g h.2
   exact a6M (pos:=ps) pa h.1 (fun τ ds hd=>by rw[aU3 hd,hl])
  ·cases h
 ·rename_i gt s t b
  unfold ckC at h
  split at h
  ·rename_i elt tg iter ifs scope ps
   split at h
   ·    rename_i own hT
        simp only[Bool.and_eq_true,decide_eq_true_eq]at h
        obtain⟨⟨⟨⟨⟨h1,h2⟩,h3⟩,h4⟩,h5⟩,h6⟩:=h
        obtain⟨q,pi,ok,pg,pt,pe⟩:=a7D (pos:=ps) (sound C Φ s) (sound C Φ t) (sound C Φ b) g hT h1 h2 h3 h4 h5 h6
        exact(pe_lc g.calm g.nd pi ok pg pt pe (aU2 h3)).aa7 fun σ H Q hh=>q hh
   ·cases h
  ·cases h
 ·split at h
  ·exact bN7
  ·cases h
 ·split at h
  ·simp only[Bool.and_eq_true]at h
   exact bO0 g.pw g.un (sound C Φ _ g .str _ h.1) (sound C Φ _ g .str _ h.2)
  ·cases h
 ·split at h
  ·simp only[Bool.and_eq_true]at h
   obtain⟨⟨h1,h3⟩,h4⟩:=h
   obtain⟨rfl,hg⟩:=ad0 g h1
   exact a7p g.pw g.calm g.un hg (g.free _ (by decide+kernel)) (show PEx X C W false _ (ev Φ _)from sound C Φ _ g .pk _ h4) (ab0 h3)
  ·cases h
 ·split at h
  ·simp only[Bool.and_eq_true]at h
   obtain⟨⟨h1,h3⟩,h4⟩:=h
   obtain⟨rfl,hg⟩:=ad0 g h1
   exact bV0 hg (g.free _ (by decide+kernel)) (show PEx X C W false _ (ev Φ _)from sound C Φ _ g .pk _ h4) (ab0 h3)
  ·cases h
 ·split at h
  ·simp only[Bool.and_eq_true]at h
   obtain⟨⟨h1,h3⟩,h4⟩:=h
   obtain⟨rfl,hg⟩:=ad0 g h1
   exact bV2 g.calm g.un hg (g.free _ (by decide+kernel)) (show PEx X C W false _ (ev Φ _)from sound C Φ _ g .pk _ h4) (ab0 h3)
  ·cases h
 ·split at h
  ·exact(bW0 g h).1
  ·cases h
 ·split at h
  ·simp only[Bool.and_eq_true]at h
   exact bV3 (show PEx X C W false _ (ev Φ _)from sound C Φ _ g .pk _ h.1) (show PEx X C W false _ (ev Φ _)from sound C Φ _ g .pk _ h.2)
  ·cases h
 ·split at h
  ·simp only[Bool.and_eq_true]at h
   obtain⟨⟨⟨h1,h2⟩,h3⟩,h4⟩:=h
   obtain⟨rfl,hg⟩:=ad0 g h1
   obtain⟨rfl,hg2⟩:=ad0 g h2
   exact bU9 g.calm hg (g.free _ (by decide+kernel)) hg2 (g.free _ (by decide+kernel)) (show PEx X C W false _ (ev Φ _)from sound C Φ _ g .pk _ h4) (ab0 h3)
  ·cases h
 ·cases h
theorem a7T (g:Good X c C Φ W): ∀ {l:List (Nat×Bool×E)} {xs:List Expr},ckM c l xs=true→PMx X C W xs (l.map fun p=>(p.2.1,ev Φ p.2.2))
 | [],[],_=> .nil
 | [],_::_,h=>by simp[ckM]at h
 |_::_,[],h=>by simp[ckM]at h
 |(i,b,e)::l,x::xs,h=>by
  simp only[ckM,Bool.and_eq_true]at h
  obtain⟨⟨h1,h2⟩,h3⟩:=h
  cases b with
  |false=>exact .val h1 (sound C Φ e g .str x h2) (a7T g h3)
  |true=>exact .own h1 (cw5 g h2) (a7T g h3)
theorem bW3 (g:Good X c C Φ W): ∀ {is:List Nat} {es:List Expr},tgN c is es=true→az0 X es is
 | [],[],_=> .nil
 | [],_::_,h=>by simp[tgN]at h
 |_::_,[],h=>by simp[tgN]at h
 |i::is,e::es,h=>by
  cases e with
  |Name x p=>
   simp only[tgN,Bool.and_eq_true]at h
   exact .cons (a3h g h.1) (bW3 g h.2)
  |_=>simp[tgN]at h
theorem cw9 (g:Good X c C Φ W)(l:Nat):fmC c l=fmN X.env l:=by
 funext t
 cases t<;>try rfl
 show(if(c.sc.names.lookup _==some .local&&_)=true then _ else _)=(if(X.env.scope.names.lookup _==some .local&&_)=true then _ else _)
 rw[g.sc]
theorem cx0 (g:Good X c C Φ W){l:List (Nat×Bool×E)}{tg y:Expr}{pos:Pos}(h:ckP c l tg y=true):
  PSx X C W (.Assign [tg] y pos) (fun τ=>(evs Φ (l.map (·.2.2)) τ).toS fun ds=>(ah3 τ (l.map fun p=>(p.1,p.2.1)) ds).toS .nx):=by
 unfold ckP at h
 split at h
 ·rename_i ts k p vs k2 p2
  simp only[Bool.and_eq_true,Bool.or_eq_true,decide_eq_true_eq]at h
  obtain⟨⟨⟨h0,hz⟩,hm⟩,h⟩:=h
  have pm:=a7T g hm
  rw[bR8]
  rcases h with⟨h1,h2⟩|h
  ·have e1:(l.map fun q=>(q.1,q.2.1,ev Φ q.2.2)).map (·.2)=l.map fun p=>(p.2.1,ev Φ p.2.2):=by simp[List.map_map]
   have e2:(l.map fun q=>(q.1,q.2.1,ev Φ q.2.2)).map (·.1)=l.map (·.1):=by simp[List.map_map]
   have:=cu5 (l:=l.map fun q=>(q.1,q.2.1,ev Φ q.2.2)) (ts:=ts) (vs:=vs) (k:=k) (k2:=k2) (p:=p) (p2:=p2) (pos:=pos) g.calm g.nd (by rw[e1];exact pm) (by simpa using hz) (by rw[e2];exact bW3 g h2) (cv9 (by
        unfold bV9 at h1
        rw[cw9 g]at h1
        exact h1))
   rw[List.map_map,List.map_map]at this
   rw[List.map_map]
   exact this
  ·split at h
   ·    rename_i i q1 j q2 x px y py a b
        simp only[Bool.and_eq_true,Bool.not_eq_true',decide_eq_true_eq]at h
        obtain⟨⟨⟨⟨⟨⟨⟨⟨h1,h2⟩,h3⟩,h4⟩,h5⟩,h6⟩,h7⟩,h8⟩,h9⟩:=h
        obtain⟨n1,l1⟩:=aV9 g h1
        obtain⟨n2,l2⟩:=aV9 g h2
        exact cu6 g.calm g.nd n1 n2 h5 l1 l2 pm (sw2 (fun_of g h0) l1 l2 h3 h4 h6 h7 h8 h9)
   ·    rename_i i q1 j q2 l q3 x px y py z pz a b d
        simp only[Bool.and_eq_true,Bool.not_eq_true',decide_eq_true_eq]at h
        obtain⟨⟨⟨⟨⟨⟨⟨⟨⟨⟨⟨⟨⟨⟨⟨h1,h2⟩,h3⟩,h4⟩,h5⟩,h6⟩,h7⟩,h8⟩,h9⟩,h10⟩,h11⟩,h12⟩,h13⟩,h14⟩,h15⟩,h16⟩:=h
        obtain⟨n1,l1⟩:=aV9 g h1
        obtain⟨n2,l2⟩:=aV9 g h2
        obtain⟨n3,l3⟩:=aV9 g h3
        exact cu7 g.calm g.nd n1 n2 n3 h9 h10 h11 l1 l2 l3 pm (sw3 (fun_of g h0) l1 l2 l3 h4 h5 h6 h7 h8 h12 h13 h14 h15 h16)
   ·cases h
 ·cases h
theorem cx3 {g:Tg}{e:E}:a3i C Φ F (.set g e):=by
 intro X c W gd x h
 unfold cs at h
 split at h
 ·rename_i tg y pos
  simp only[Bool.and_eq_true]at h
  obtain⟨h1,h2⟩:=h
  split at h2
  ·split  at h2
   ·    rename_i i n p
        simp only[Bool.and_eq_true]at h2
        obtain⟨own,hT⟩:=Option.isSome_iff_exists.mp h1
        have hs:Sto X n i:=by
         have hT:(if c.N[i]? =some n∧n∈c.st then some [(n,i)]else none)=some own:=hT
         split at hT
         ·rename_i hx
          obtain⟨z1,z2⟩:=gd.sto _ hx.2
          exact⟨by rw[gd.N];exact hx.1,z1,z2⟩
         ·cases hT
        obtain⟨te,ps,ht⟩:=bW1 (pos:=pos) (p:=p) gd.toGood hs (fun_of gd.toGood h2.1) h2.2
        exact ct0 ps ht
   ·    rename_i es k p
        simp only[Bool.and_eq_true,Bool.not_eq_true']at h2
        obtain⟨own,hT⟩:=Option.isSome_iff_exists.mp h1
        refine bT0 (sound C Φ e gd.toGood .str y h2.2) (aU5 gd.toGood hT) ?_ (st_no (.inr h2.1)) rfl
        exact cv3 (es:=es) (k:=k) (p:=p) (l:=pos.line) (env:=X.env)
   ·cases h2
  ·rename_i hc
   simp only[Bool.and_eq_true,Bool.or_eq_true,Bool.not_eq_true']at h2
   obtain⟨⟨h3,h5⟩,h4⟩:=h2
   obtain⟨own,hT⟩:=Option.isSome_iff_exists.mp h1
   have hc:a3e y=false:=by simpa using hc
   refine bT0 (sound C Φ e gd.toGood .str y h4) (aU5 gd.toGood hT) (bV8 hc) (st_no h3) ?_
   cases tg<;>first|rfl|(cases h5)
 ·cases h
theorem cx4 {i:Nat}{e:E}:a3i C Φ F (.own i e):=by
 intro X c W gd x h
 unfold cs at h
 split at h
 ·rename_i n p y pos
  simp only[Bool.and_eq_true]at h
  obtain⟨te,ps,ht⟩:=bW1 (pos:=pos) (p:=p) gd.toGood (a3h gd.toGood h.1.1) (fun_of gd.toGood h.1.2) h.2
  exact ct1 ps ht
 ·cases h
theorem cx5 {g:Tg}{e:E}{b:List S}(ih:bW2 C Φ F b):a3i C Φ F (.for_ g e b):=by
 intro X c W gd x h
 unfold cs at h
 split at h
 ·rename_i tg it body pos
  simp only[Bool.and_eq_true]at h
  obtain⟨⟨⟨h1,h0⟩,h2⟩,h3⟩:=h
  obtain⟨own,hT⟩:=Option.isSome_iff_exists.mp h1
  have pi:PIx X C W true tg it (fun τ=>(ev Φ e τ).bind fun d=>ofO (itemsOf d)):=sound C Φ e gd.toGood (.src true tg) it h2
  have pb:=ih gd body h3
  exact ct3 gd.own gd.calm pi (aU5 gd.toGood hT) pb (ps_for gd.own gd.calm pi (aU5 gd.toGood hT) pb (aU2 h0))
 ·cases h
end
theorem ax2.tr {X:Cx}{c:Cfg}{C:Nat→Addr}{Φ:Nat→List D→R D}{W W2:WX}(g:ax2 X c C Φ W){pn:List (Addr×Obj)}{xe:Value→Shared→Prop}(tk:Takes (X.tr pn xe) W2)(ow:PassesOwn (model X.prog X.w) X.A X.env xe):ax2 (X.tr pn xe) c C Φ W2:=
 ⟨⟨g.calm,g.nd,g.N,g.sc,g.sto,g.un,g.free,g.fns,g.glo,tk,g.pw,fun h=>by
  obtain⟨lv,h1,h2,h3⟩:=g.lam h
  exact⟨lv,h1,h2,fun x f hl=>⟨(h3 x f hl).ex⟩⟩,fun id h e=>(g.hof id h e).tr,g.fcl,g.frs,fun x f hl=>g.srt x f hl,fun x f hl=>g.pls x f hl,g.obj,g.mts⟩,fun x k hl=>⟨(g.exs x k hl).exc,(g.exs x k hl).mg,(g.exs x k hl).kp,(g.exs x k hl).sub,(g.exs x k hl).ty,(g.exs x k hl).db⟩,ow,g.stk,g.frm,g.trs,fun id p e=>g.gds id p e⟩
mutual
theorem bW4 (C:Nat→Addr)(Φ:Nat→List D→R D)(F:Nat): ∀s:S,a3i C Φ F s
 | .ex  e=>fun gd x h=>by
   unfold cs at h
   split at h
   ·rename_i y pos
    simp only[Bool.and_eq_true]at h
    have hc:a3e y=false:=by
        cases y<;>first|rfl|(cases h.1)
    exact cr9 (sound C Φ e gd.toGood .pk y h.2) (bV8 hc)
   ·cases h
 | .set g e=>cx3
 | .own i e=>cx4
 | .par l=>fun gd x h=>by
   unfold cs at h
   split at h
   ·exact cx0 gd.toGood h
   ·cases h
 | .reto .. =>fun gd x h=>by
   unfold cs at h
   cases h
 | .ret e=>fun gd x h=>by
   unfold cs at h
   split at h
   ·exact cs0 (sound C Φ e gd.toGood .str _ h)
   ·cases h
 | .ife t a b=>fun gd x h=>by
   unfold cs at h
   split at h
   ·simp only[Bool.and_eq_true]at h
    exact cs1 (sound C Φ t gd.toGood .tst _ h.1.1) (az9 C Φ F a gd _ h.1.2) (az9 C Φ F b gd _ h.2)
   ·cases h
 | .for_ g e b=>cx5 (az9 C Φ F b)
 | .whl t b=>fun gd x h=>by
   unfold cs at h
   split at h
   ·simp only[Bool.and_eq_true]at h
    exact ct4 gd.own (sound C Φ t gd.toGood .tst _ h.1) (az9 C Φ F b gd _ h.2)
   ·cases h
 | .app .. =>fun gd x h=>by
   unfold cs at h
   cases h
 | .ext i e=>fun gd x h=>by
   unfold cs at h
   split at h
   ·simp only[Bool.and_eq_true,beq_iff_eq]at h
    obtain⟨⟨⟨⟨rfl,h2⟩,h3⟩,h4⟩,h5⟩:=h
    obtain⟨q1,q2,q3,q4⟩:=slot_of gd.toGood h2
    exact ct6 (m:=false) q1 q2 q3 q4 (sound C Φ e gd.toGood .pk _ h5) h3 (by simpa using h4)
   ·cases h
 | .raise k=>fun gd x h=>by
   unfold cs at h
   split at h
   ·simp only[Bool.and_eq_true]at h
    obtain⟨h1,h2⟩:=h
    split at h1
    ·   rename_i k' hk
        have:k=k':=by simpa using h1
        subst this
        have ef:=gd.exs _ _ hk
        exact cs5 gd.calm gd.tk (pmk_own PySem.F.excBase_ValueError ef.exc ef.mg ef.kp (raises_own ef.sub ef.ty) (az2 gd.toGood h2) ef.db)
    ·cases h1
   ·cases h
 | .pass .. =>fun gd x h=>by
   unfold cs at h
   cases h
 | .fz .. =>fun gd x h=>by
   unfold cs at h
   cases h
 | .dset .. =>fun gd x h=>by
   unfold cs at h
   cases h
 | .dupd .. =>fun gd x h=>by
   unfold cs at h
   cases h
 | .dpop .. =>fun gd x h=>by
   unfold cs at h
   cases h
 | .lpop .. =>fun gd x h=>by
   unfold cs at h
   cases h
 | .try_ .. =>fun gd x h=>by
   unfold cs at h
   cases h
 | .tryk .. =>fun gd x h=>by
   unfold cs at h
   cases h
 | .plv .. =>fun gd x h=>by
   unfold cs at h
   cases h
 | .plc .. =>fun gd x h=>by
   unfold cs at h
   cases h
 | .tcx .. =>fun gd x h=>by
   unfold cs at h
   cases h
 | .buck k i j n e=>fun gd x h=>by
   unfold cs at h
   cases h
 | .gds .. =>fun gd x h=>by
   unfold cs at h
   cases h
 | .thl .. =>fun gd x h=>by
   unfold cs at h
   cases h
 | .st .. =>fun gd x h=>by
   unfold cs at h
   cases h
 | .top=>fun gd x h=>⟨fun _ _ _ _ _ _ h=>by obtain⟨_,_,_,_,_,h⟩:=h;exact h.elim⟩
theorem az9 (C:Nat→Addr)(Φ:Nat→List D→R D)(F:Nat): ∀s:List S,bW2 C Φ F s
 | []=>fun gd x h=>by
   unfold css at h
   have:x=[]:=by simpa using h
   subst this
   exact cs4
 | s::ss=>fun gd x h=>by
   unfold css at h
   split at h
   ·cases h
   ·split at h
    ·   simp only[Bool.and_eq_true]at h
        exact bS9 (bW4 C Φ F s gd _ h.1) (az9 C Φ F ss gd _ h.2)
end
end Fz
namespace Fz
open PySem PySem.Spec L2
variable [aa0] [FnT]
theorem a7U {r:Option (Option Value)}{s:String}(h:aR1 r s=true):r=some (some (.builtin s)):=by
 unfold aR1 at h
 split at h
 ·have:=eq_of_beq h
  subst this
  rfl
 ·cases h
theorem cx6 {r:Option (Option Value)}(h:a5v r=true):r=some none:=by
 unfold a5v at h
 split at h
 ·rfl
 ·cases h
theorem bW5 {K:Fr'}{D:Addr}(h:a1l K D=true):ExcC K D:=by
 unfold a1l at h
 simp only[Bool.and_eq_true,decide_eq_true_eq]at h
 obtain⟨⟨⟨⟨⟨⟨⟨h1,h2⟩,h3⟩,h4⟩,h5⟩,h6⟩,h7⟩,h8⟩:=h
 exact⟨a7U h1,cx6 h2,h3,h4,a7U h5,a7U h6,h7,h8⟩
theorem bW6 {K:Fr'}{D:Addr}: ∀ {cs:List Addr} {bs:List Bool},a1m K D cs=some bs→IsL K D cs bs
 | [],bs,h=>by cases h;exact .nil
 |c::cs,bs,h=>by
  unfold a1m at h
  split at h
  ·rename_i b bs' h1 h2
   cases h
   exact .cons h1 (bW6 h2)
  ·cases h
theorem bW9: ∀ {l:List (Nat×Nat)} {x a:Nat},l.lookup x=some a→(x,a)∈l
 | [],_,_,h=>by cases h
 |(y,b)::r,x,a,h=>by
  rw[List.lookup_cons]at h
  by_cases e:(x==y)=true
  ·rw[e]at h
   have:b=a:=by simpa using h
   have e':x=y:=by simpa using e
   subst this;subst e';exact List.mem_cons_self
  ·have e:(x==y)=false:=by simpa using e
   rw[e]at h
   exact List.mem_cons_of_mem _ (bW9 h)
theorem cx7 {K:Fr'}{C:Nat→Addr}{t:Nat×List Nat×List (Nat×Nat)}(h:a5x K C t=true):aa4 K C t:=fun c n hl=>by
 unfold a5x at h
 rw[List.all_eq_true]at h
 have q:=h _ (bW9 hl)
 simp only[Bool.and_eq_true,decide_eq_true_eq]at q
 obtain⟨⟨q1,q2⟩,q3⟩:=q
 split at q3
 ·rename_i bs hb
  exact⟨bs,⟨bW5 q1,q2,bW6 hb⟩,of_decide_eq_true q3⟩
 ·cases q3
structure Glb (K:Fr')(mg:Str→Option Value)(C:Nat→Addr)(glo:List (Str×D))(exs:List (Str×Nat)):Prop where
 free: ∀x∈bnl,mg x=none
 glo: ∀x d,glo.lookup x=some d→aU1 K mg x d
 exs: ∀x k,exs.lookup x=some k→PySem.W.excIn K (C k) He.veBase "ValueError.__new__"=true∧PySem.W.keepIn K (.ref (C k))=true∧PySem.W.subIn K (.ref (C k)) (.type "BaseException")=some true∧
  PySem.W.typeIn K (.ref (C k))=some (.type "type")∧mg x=some (.ref (C k))∧(x==("__debug__":Str))=false
theorem aa8 {α:Type}: ∀ {l:List (Str×α)} {x:Str} {a:α},l.lookup x=some a→(x,a)∈l
 | [],_,_,h=>by cases h
 |(y,b)::r,x,a,h=>by
  rw[List.lookup_cons]at h
  by_cases e:(x==y)=true
  ·rw[e]at h
   have:b=a:=by simpa using h
   have e':x=y:=by simpa using e
   subst this;subst e';exact List.mem_cons_self
  ·have e:(x==y)=false:=by simpa using e
   rw[e]at h
   exact List.mem_cons_of_mem _ (aa8 h)
def cx8:D→Bool
 | .dict _=>false
 |_=>true
theorem cx9 {K:Fr'}{h:Heap}{mg:Str→Option Value}{glo:List (Str×D)}{exs:List (Str×Nat)}{fs:List Str}(X:K.In h)(G:h.Ns mainGlobals mg)(hx: ∀p∈exs,exs.find? (fun q=>q.2==p.2)=some p∧(p.1==("__debug__":Str))=false)(s:a1i glo exs fs K=true)(hk: ∀x kvs,glo.lookup x=some (.dict kvs)→ ∃es n,KDict K aa0.w (He.ga K x) es n):
  Glb K mg (cAd K exs) glo exs∧ ∀x∈fs,mg x=some (.ref (He.ga K x)):=by
 unfold a1i at s
 simp only[Bool.and_eq_true,List.all_eq_true]at s
 obtain⟨⟨⟨s1,s2⟩,s3⟩,s4⟩:=s
 refine⟨⟨fun x hx=>He.free_ok X G (s3 x hx),fun x d hl=> ?_,fun x k hl=> ?_⟩,fun x hx=>He.glo_ok X G (s4 x hx)⟩
 ·have q:= s1 _ (aa8 hl)
  unfold bv0 at q
  split at q
  ·rename_i u hu
   cases d with
   |    dict kvs=>
        replace q:a5t K u kvs=true:=q
        unfold a5t at q
        split at q
        ·rename_i a
         split at q
         ·rename_i c es n sl hla
          simp only[Bool.and_eq_true,decide_eq_true_eq,Bool.not_eq_true']at q
          obtain⟨⟨⟨rfl,q2⟩,q3⟩,q4⟩:=q
          obtain⟨es',n',kd⟩:=hk x kvs hl
          have ea:He.ga K x=a:=by
           unfold He.ga
           rw[hu]
          rw[ea]at kd
          have e2:=kd.at_
          rw[hla]at e2
          have e3:es=es':=by
           have:=Option.some.inj e2
           injection this with _ _ e4 _
           injection e4
          subst e3
          exact⟨a,es,n',PySem.W.mg_of X G hu,kd,q4⟩
         ·cases q
        ·cases q
   |    _=>
        obtain⟨v,r,p⟩:=bP7 _ u q
        exact⟨v,u,PySem.W.mg_of X G hu,r,p⟩
  ·cases q
 ·have hm:=aa8 hl
  obtain⟨q1,q2⟩:=s2 _ hm
  obtain⟨f1,f2⟩:=hx _ hm
  have e:cAd K exs k=He.ga K x:=by
   unfold cAd
   rw[f1]
  rw[e]
  obtain⟨z1,z2,z3,z4⟩:=He.exc_ok q1
  exact⟨z1,z2,z3,z4,He.glo_ok X G q2,f2⟩
theorem cy0 {K:Fr'}{h:Heap}{mg:Str→Option Value}{glo:List (Str×D)}{exs:List (Str×Nat)}{fs:List Str}(X:K.In h)(G:h.Ns mainGlobals mg)(hx: ∀p∈exs,exs.find? (fun q=>q.2==p.2)=some p∧(p.1==("__debug__":Str))=false)(s:a1i glo exs fs K=true)(hn:(glo.all fun p=>cx8 p.2)=true:=by decide+kernel):
  Glb K mg (cAd K exs) glo exs∧ ∀x∈fs,mg x=some (.ref (He.ga K x)):=by
 refine cx9 X G hx s fun x kvs hl=> ?_
 have:=List.all_eq_true.mp hn _ (aa8 hl)
 cases this
def stOf (sc:Scope):List Str:=(sc.names.filter fun p=>p.2== .local||p.2== .cell).map (·.1)
def scB (N ps:List Str)(sc:Scope):Bool:=(match sc.kind with| .function=>true|_=>false)&& !sc.isCoroutine&& !sc.isGenerator&&decide N.Nodup&&decide (N.take ps.length=ps)&&
 (ps.all fun x=>match sc.names.lookup x with|some .local=>true|some .cell=>true|_=>false)&&(sc.names.all fun y=>match y.2 with| .free=>false|_=>true)&&(sc.names.all fun y=>decide (sc.names.lookup y.1=some y.2))
theorem ax3 {N ps:List Str}{sc:Scope}(h:scB N ps sc=true):FnScope N ps sc∧ ∀x∈stOf sc,sc.names.lookup x=some .local∨sc.names.lookup x=some .cell:=by
 unfold scB at h
 simp only[Bool.and_eq_true,Bool.not_eq_true',decide_eq_true_eq,List.all_eq_true]at h
 obtain⟨⟨⟨⟨⟨⟨⟨h1,h2⟩,h3⟩,h4⟩,h5⟩,h6⟩,h7⟩,h8⟩:=h
 refine⟨⟨?_,h2,h3,h4,h5,fun x hx=> ?_,fun y hy e=> ?_⟩,fun x hx=> ?_⟩
 ·split at h1
  ·assumption
  ·cases h1
 ·have:=h6 x hx
  split at this
  ·exact .inl (by assumption)
  ·exact .inr (by assumption)
  ·cases this
 ·have:=h7 y hy
  rw[e]at this
  cases this
 ·obtain⟨p,hp,rfl⟩:=List.mem_map.mp hx
  obtain⟨hp1,hp2⟩:=List.mem_filter.mp hp
  have hl:=h8 p hp1
  have hk:p.2= .local∨p.2= .cell:=by simpa using hp2
  rcases hk with hk|hk
  ·rw[hk]at hl;exact .inl hl
  ·rw[hk]at hl;exact .inr hl
section
variable {P:Program} {w:World} {K:Fr'} {mg:Str→Option Value} {base:Heap} {C:Nat→Addr} {glo:List (Str×D)} {exs:List (Str×Nat)} {fns:List (Str×Nat)} {lv:Nat} {Φ:Nat→List D→R D} {x q:Str} {params:Arguments} {body:List Stmt} {scope:Scope} {kws:List (Str×V)} {f:Addr} {fd:FuncData} {N ps:List Str} {irs:List S} {Fu:Nat} {trs:List (Nat×List Nat×List (Nat×Nat))}
theorem a3k {CXX:CXT}(pw:P=aa0.P∧w=aa0.w)(ht: ∀t∈trs,aa4 K C t)(G:Glb K mg C glo exs)(hf: ∀x f,fns.lookup x=some f→FnG P w K mg base C lv x (Φ f))(hs:scB N ps scope=true){frs:List (Str×Nat)}(hfr: ∀x f,frs.lookup x=some f→aG0 P w K mg base C lv x (Φ f)){cdv:Value}{A:Around}{outer:List Env}{s:Shared}{H:Hp}{E:XK}(hr:Room lv (A.deeper (PyProof.Rows.envOfC q scope s.heap.objs.size f cdv))){W:WX}{srt:List (Str×Nat)}(hsr: ∀x f',srt.lookup x=some f'→bQ0 (cxOf CXX P w K mg base N q scope f cdv A outer s H E) x (Φ f'))
  (tk:Takes (cxOf CXX P w K mg base N q scope f cdv A outer s H E) W):
  ax2 (cxOf CXX P w K mg base N q scope f cdv A outer s H E) ⟨N,scope,stOf scope,fns,glo,exs,[],trs,[],false,frs,[],srt,[],[]⟩ C Φ W:=by
 obtain⟨S,hst⟩:=ax3 hs
 refine⟨⟨rfl,S.nd,rfl,rfl,fun x hx=>⟨hst x hx,.inl rfl⟩,hr.units,G.free,fun x g hl=> ?_,G.glo,tk,pw,fun h=>absurd rfl h,fun _ _ h=>(by cases h),fun h=>(by cases h),fun x g hl=> ?_,hsr,fun _ _ h=>(by cases h),fun h=>absurd rfl h,fun _ h=>(by cases h)⟩,fun x k hl=> ?_,passes_of rfl,rfl,rfl,ht,fun _ _ h=>(by cases h)⟩
 ·obtain⟨k,f',fd',ps',hk,h1,h2,h3,h4,h5⟩:=hf x g hl
  exact⟨k,f',fd',ps',h1,hr.mono hk,h2,h3,h4,h5⟩
 ·obtain⟨k,f',fd',ps',hk,h1,h2,h3,h4,h5⟩:=hfr x g hl
  exact⟨k,f',fd',ps',h1,hr.mono hk,h2,h3,h4,h5⟩
 ·obtain⟨z1,z2,z3,z4,z5,z6⟩:=G.exs x k hl
  exact⟨z1,z5,z2,z3,z4,z6⟩
theorem cy2 {H:Hp}{vs:List V}{ds:List D}{W:WX}{Q:VK}(r:aa1 K H vs ds)(t:LamX.Tabs aa0.T H)(hl:ds.length=ps.length)
  (hm:match run Φ Fu N.length ps.length irs ds with
   | .ok d=> ∀v H',Same H H'→Rp K H' v d→Q v H'
   | .ex c=> ∀σ H',Same H H'→W (.ref (C c)) none σ H'
   | .no=>False):tS K C W (xs Φ Fu irs) { nx:=fun _ H'=>Q .non H',rt:=Q } (start N vs) H:=by
 refine⟨H,[],ad8 N.length ds,a2M r t N,by rw[an8];exact Same.refl _,?_⟩
 unfold run at hm
 rw[if_pos hl]at hm
 cases hx:xs Φ Fu irs (ad8 N.length ds)with
 |nx τ=>
  rw[hx]at hm
  exact fun σ O H' rs s=>hm .non H' (s.trans ay2) .non
 |rt d=>
  rw[hx]at hm
  exact fun v H' s r=>hm v H' s r
 |rf ys=>
  rw[hx]at hm
  exact fun p vs H' s f a b c=>hm (.ref p) H' s (.lst (.of a) (b.mono aa9) c)
 |ex c=>
  rw[hx]at hm
  exact fun σ H' s=>hm σ H' s
 |no=>rw[hx]at hm;exact hm
theorem step {x0:Str}(pw:P=aa0.P∧w=aa0.w)(ht: ∀t∈trs,aa4 K C t)(G:Glb K mg C glo exs)(hf: ∀x f,fns.lookup x=some f→FnG P w K mg base C lv x (Φ f))(F:FunD K x0 q params body scope [] kws f fd)(hs:scB N ps scope=true)
  (h:css ⟨N,scope,stOf scope,fns,glo,exs,[],trs,[],false,[],[],[],[],[]⟩ irs body=true) (hm:mg x=some (.ref f)) (hb:Binds K fd ps []) (hx:(x==("__debug__":Str))=false):FnG P w K mg base C (lv+1) x (run Φ Fu N.length ps.length irs):=by
 refine⟨lv+1,f,fd,ps,Nat.le_refl _,FunD.ok F (ax3 hs).1 (fun vs H Q E hsp=> ?_) (fun cdv A outer s H vs Q E hr hsp=> ?_),hm,F.kp,hb,hx⟩
 ·obtain⟨ds,r,_,z⟩:=hsp
  rw[r.length]
  by_cases hl:ds.length=ps.length
  ·exact hl
  ·unfold run at z
   rw[if_neg hl]at z
   exact z.elim
 ·obtain⟨ds,r,tb,z⟩:=hsp
  have tk:Takes (cxOf (L2.CX P w) P w K mg base N q scope f cdv A outer s H E) (fun cls d _ H=>E cls d H):=takes_of rfl rfl rfl rfl
  have gd:=a3k (CXX:=L2.CX P w) (N:=N) (ps:=ps) (fns:=fns) pw ht G hf hs (frs:=[]) (fun _ _ h=>by cases h) hr (srt:=[]) (fun _ _ h=>by cases h) tk
  refine⟨_,az9 C Φ Fu irs gd body h,?_⟩
  have hl:ds.length=ps.length:=by
   by_cases hl:ds.length=ps.length
   ·exact hl
   ·    unfold run at z
        rw[if_neg hl]at z
        exact z.elim
  refine cy2 r tb hl ?_
  cases hz:run Φ Fu N.length ps.length irs ds with
  |ok d=>rw[hz]at z;exact z
  |ex c=>rw[hz]at z;exact fun σ H' s=>z H' s
  |no=>rw[hz]at z;exact z
theorem stepF {x0:Str}(pw:P=aa0.P∧w=aa0.w)(ht: ∀t∈trs,aa4 K C t)(G:Glb K mg C glo exs)(hf: ∀x f,fns.lookup x=some f→FnG P w K mg base C lv x (Φ f))(F:FunD K x0 q params body scope [] kws f fd)(hs:scB N ps scope=true)
  (h:css ⟨N,scope,stOf scope,fns,glo,exs,[],trs,[],false,[],[],[],[],[]⟩ irs body=true) (hm:mg x=some (.ref f)) (hb:Binds K fd ps []) (hx:(x==("__debug__":Str))=false):aG0 P w K mg base C (lv+1) x (a2C Φ Fu N.length ps.length irs):=by
 have key: ∀ds:List D,a2C Φ Fu N.length ps.length irs ds≠ .no→ds.length=ps.length:=fun ds z=>by
  by_cases hl:ds.length=ps.length
  ·exact hl
  ·unfold a2C at z
   rw[if_neg hl]at z
   exact absurd rfl z
 refine⟨lv+1,f,fd,ps,Nat.le_refl _,FunD.ok F (ax3 hs).1 (fun vs H Q E hsp=> ?_) (fun cdv A outer s H vs Q E hr hsp=> ?_),hm,F.kp,hb,hx⟩
 ·obtain⟨ds,r,_,z⟩:=hsp
  rw[r.length]
  exact key ds fun e=>by rw[e]at z;exact z
 ·obtain⟨ds,r,tb,z⟩:=hsp
  have hl:=key ds fun e=>by rw[e]at z;exact z
  have tk:Takes (cxOf (L2.CX P w) P w K mg base N q scope f cdv A outer s H E) (fun cls d _ H=>E cls d H):=takes_of rfl rfl rfl rfl
  have gd:=a3k (CXX:=L2.CX P w) (N:=N) (ps:=ps) (fns:=fns) pw ht G hf hs (frs:=[]) (fun _ _ h=>by cases h) hr (srt:=[]) (fun _ _ h=>by cases h) tk
  refine⟨_,az9 C Φ Fu irs gd body h,?_⟩
  refine⟨H,[],ad8 N.length ds,a2M r tb N,by rw[an8];exact Same.refl _,?_⟩
  unfold a2C at z
  rw[if_pos hl]at z
  cases hx:xs Φ Fu irs (ad8 N.length ds)with
  |nx τ=>rw[hx]at z;exact z.elim
  |rt d=>rw[hx]at z;exact z.elim
  |rf ys=>
   rw[hx]at z
   exact fun p vs H' s f a b c=>z (.ref p) H' s ⟨p,vs,ys,rfl,rfl,f,a,b,c⟩
  |ex c=>
   rw[hx]at z
   exact fun σ H' s=>z H' s
  |no=>rw[hx]at z;exact z.elim
def a7W (K:Fr'):Sp:=fun vs H Q _=> ∃(a:Addr) (ns:List Int),vs=[.ref a]∧ns.length≤63∧LamX.Tabs aa0.T H∧SqL K H a (ns.map V.int)∧ ∀H',Q (.bl true) H'
end
end Fz
instance Fz.noFnI:Fz.FnT:=Fz.noFn
namespace Fz
open PySem PySem.Spec L2
structure cy3 where
 ps:List Str
 N:List Str
 e:E
 fns:List (Str×Nat)
structure bX0 where
 id:Nat
 x:Str
 nd:Nat
 gn:List (Str×Nat)
 L:Option cy3
def bX0.nf (h:bX0):Nat:=h.gn.length+(match h.L with|none=>0|some _=>1)
variable [aa0] [FnT]
end Fz
namespace Fz
open PySem PySem.Spec L2
def startF (n:Nat)(ds:List D)(nf:Nat):Sd:=ds.map (fun d=>some (.val d))++((List.range nf).map (fun j=>some (.fnc (9001+j)))++List.replicate (n-(ds.length+nf)) none)
def a3m (Φ:Nat→List D→R D)(F n k nf:Nat)(body:List S)(ds:List D):R D:=
 if ds.length=k then(match xs Φ F body (startF n ds nf)with
    | .rt d=> .ok d
    | .rf xs=> .ok (.list xs)
    | .nx _=> .ok .none
    | .ex c=> .ex c
    | .no=> .no)else .no
theorem aG7 {n nf:Nat}{ds:List D}{i:Nat}{z:Sv}(h:(startF n ds nf)[i]? =some (some z)):(∃d,ds[i]? =some d∧z= .val d)∨ ∃j,j<nf∧i=ds.length+j∧z= .fnc (9001+j):=by
 unfold startF at h
 by_cases h1:i<ds.length
 ·rw[List.getElem?_append_left (by simpa using h1),List.getElem?_map]at h
  cases hd:ds[i]? with
  |none=>rw[hd]at h;cases h
  |some d=>rw[hd]at h;cases h;exact .inl ⟨d,rfl,rfl⟩
 ·rw[List.getElem?_append_right (by simpa using h1),List.length_map]at h
  by_cases h2:i-ds.length<nf
  ·rw[List.getElem?_append_left (by  simpa using h2),List.getElem?_map,List.getElem?_range h2]at h
   cases h
   exact .inr ⟨i-ds.length,h2,by omega,rfl⟩
  ·rw[List.getElem?_append_right (by  simpa using h2),List.getElem?_replicate]at h
   split at h<;>cases h
variable [aa0]
def fnT (gs:List Clo)(hc: ∀g∈gs,∀H H':Hp,Ex H H'→g.ok H→g.ok H'):FnT where
 fa:=fun g=>((gs[g-9001]?).map (·.f)).getD 0
 ok:=fun g H=>9001≤g∧ ∃c,gs[g-9001]? =some c∧c.ok H
 mono:=fun g H H' x ⟨h1,c,h2,h3⟩=>⟨h1,c,h2,hc c (List.mem_of_getElem? h2) H H' x h3⟩
 sa:=fun _=>True
theorem cy4 {K:Fr'}{H:Hp}{vds:List V}{ds:List D}{gs:List Clo}(hc: ∀g∈gs,∀H H':Hp,Ex H H'→g.ok H→g.ok H')(r:aa1 K H vds ds)(t:LamX.Tabs aa0.T H)(hok: ∀g∈gs,g.ok H)(N:List Str):
  @RS _ (fnT gs hc) K [] H (start N (vds++gs.map fun g=>V.ref g.f)) (startF N.length ds gs.length):=by
 have n:=r.length
 refine @RS.mk _ (fnT gs hc) K [] H _ _ t ?_ (fun a h=>by cases h) (fun i d e=> ?_) (fun i xs e=> ?_) (fun i xs e=> ?_) (fun i j a x y _ ox _ e _ _ _=> ?_) (fun i g e=> ?_) (fun i g e=>by
  rcases aG7 e with⟨d',h1,h2⟩|⟨j,_,_,h2⟩ <;>cases h2) (.none fun i g e=>by
  rcases aG7 e with⟨d',h1,h2⟩|⟨j,_,_,h2⟩ <;>cases h2)
 ·simp[L2.start,startF,n]
 ·rcases aG7 e with⟨d',h1,h2⟩|⟨j,_,_,h2⟩
  ·cases h2
   obtain⟨v,g1,g2⟩:=aa1.get r h1
   have hi:i<vds.length:=(List.getElem?_eq_some_iff.mp g1).1
   refine⟨v,?_,by rw[an8];exact g2⟩
   unfold L2.start
   rw[List.getElem?_append_left (by rw[List.length_map,List.length_append];omega),List.getElem?_map,List.getElem?_append_left hi,g1]
   rfl
  ·cases h2
 ·rcases aG7 e with⟨d',h1,h2⟩|⟨j,_,_,h2⟩ <;>cases h2
 ·rcases aG7 e with⟨d',h1,h2⟩|⟨j,_,_,h2⟩ <;>cases h2
 ·rcases aG7 e with⟨d',h1,h2⟩|⟨j,_,_,h2⟩ <;>(subst h2;cases ox)
 ·rcases aG7 e with⟨d',h1,h2⟩|⟨j,hj,hi,h2⟩
  ·cases h2
  ·cases h2
   have e1:9001+j-9001=j:=by omega
   have hg:gs[j]? =some gs[j]:=List.getElem?_eq_getElem hj
   refine⟨?_,?_⟩
   ·    show _=some (some (V.ref (((gs[9001+j-9001]?).map (fun g=>g.f)).getD 0)))
        rw[e1,hg]
        unfold L2.start
        rw[List.getElem?_append_left (by rw[List.length_map,List.length_append,List.length_map];omega),List.getElem?_map,List.getElem?_append_right (by omega),List.getElem?_map,show i-vds.length=j by omega,hg]
        rfl
   ·    refine⟨by omega,gs[j],by rw[e1];exact hg,?_⟩
        rw[an8]
        exact hok _ (List.getElem_mem hj)
end Fz
namespace Fz
open PySem PySem.Spec L2
theorem cy8 {xs:List Str}{K:Fr'}(h:thB xs K=true){x:Str}(hx:x∈xs):PySem.W.exmOne K (.ref (He.ga K x)) (.ref (He.ga K x))=some true:=by
 unfold thB at h
 rw[List.all_eq_true]at h
 exact of_decide_eq_true (h x hx)
def a7X (q:Str):Str:=q++".<locals>."++"<lambda>"
theorem cz2 {l:PySem.W.OpenLaw}{n k:Nat}{q:Program}{loose:List Str}{XP:(Str→Option Value)→Heap→Prop}{YP:World→Heap→Prop}{d:DefRec}{x:Str}
  (hn:l.most=some n) (hn2:n≤sizeLine) (hdf:d.params.defaults=[]) (hr:Room k callerA)
  (F: ∀(w:World) (mg:Str→Option Value) (fa:Addr) (h:Heap),YP w h→h.Ns mainGlobals mg→mg d.name=some (.ref fa)→
   ∃    (K:Fr') (fd:FuncData) (cs:List (Addr×Addr)) (sp:Sp),K.In h∧(∀p∈cs,h.get? p.2=some { cls:= .none,data:= .fields #[] })∧(∀p∈cs,K.lookup p.2=none)∧(∀p∈cs,PySem.W.CodeHd h p.1 p.2)∧
        (∀(s:Shared) (u:Value),BindsTo s fd ⟨[u],[]⟩ [(x,u)])∧
        (∀(H:Hp) (a:Addr) (ns:List Int),ns.length≤n→(∀p∈cs,H p.2=some (.tbl #[]))→SqL K H a (ns.map V.int)→sp [.ref a] H (fun v _=>v= .bl true) fun _ _ _=>False)∧
        ∀base:Heap,K.In base→base.Ns mainGlobals mg→(∀p∈cs,LamX.TabB base mg p.1 p.2)→FnOk l.prog w K mg base CX0 k fa fd [x] sp):
  PySem.W.WalkO q loose XP YP l.row.toRowW d [] (fun f vs=>PySem.call f vs):=by
 refine Att.attach_callB hn hdf fun w s₀ s₁ mg mb fa o pm cd doc a vs ns G Y ho hd hcd hmg hobj hints hlen hbits hg=> ?_
 obtain⟨K,fd,cs,sp,KX,hT,nT,hC,hb,hsp,hF⟩:=F w mg fa _ Y G.T.g hmg
 exact LamX.law_callTs KX G.T.g G.T.b G.T.builtins G.T.nolimit hg hT nT hC G.T.bmain hobj hints (Nat.le_trans hlen hn2) hr hF hb (fun H hH hS=>hsp H a ns hlen hH hS) fun H e s' z=>z
end Fz
namespace Fz
open PySem PySem.Spec L2
def aA2 (K:Fr')(tfs:List (Str×Str)):List (Addr×Str):=tfs.map fun p=>((He.cT K (p.1,none)).2,a7X p.2)
theorem bX1 {K:Fr'}: ∀ {tfs:List (Str×Str)},(tfs.map fun p=>(He.cT K (p.1,none)).2).Nodup→ ∀ {p:Str×Str},p∈tfs→((He.cT K (p.1,none)).2,a7X p.2)∈aA2 K tfs∧ ∀r∈aA2 K tfs,r.1=(He.cT K (p.1,none)).2→r.2=a7X p.2
 | [],_,p,h=>by cases h
 |a::tfs,nd,p,h=>by
  rw[List.map_cons,List.nodup_cons]at nd
  have nin: ∀r∈aA2 K tfs,r.1≠(He.cT K (a.1,none)).2:=fun r hr z=>by
   unfold aA2 at hr
   obtain⟨x,hx,rfl⟩:=List.mem_map.mp hr
   exact nd.1 (List.mem_map.mpr ⟨x,hx,z⟩)
  rcases List.mem_cons.mp h with rfl|h
  ·refine⟨List.mem_cons_self,fun r hr e=> ?_⟩
   rcases List.mem_cons.mp hr with rfl|hr
   ·rfl
   ·exact absurd e (nin r hr)
  ·obtain⟨h1,h2⟩:=bX1 nd.2 h
   refine⟨List.mem_cons_of_mem _ h1,fun r hr e=> ?_⟩
   rcases List.mem_cons.mp hr with rfl|hr
   ·exact absurd e.symm (nin _ h1)
   ·exact h2 r hr e
def aM3 [aa0](base:Heap)(mg:Str→Option Value)(q:Str)(fd:FuncData):Prop:=
 ∀c:Addr,fd.code= .ref c→ ∃P0,LamX.TabB base mg c P0∧(P0,q++".<locals>."++"<lambda>")∈aa0.T∧ ∀p∈aa0.T,p.1=P0→p.2=q++".<locals>."++"<lambda>"
theorem a3o {sc:Addr}{P:Program}{w:World}{K:Fr'}{base:Heap}{mg:Str→Option Value}{tfs:List (Str×Str)}{g x q:Str}{params:Arguments}{body:List Stmt}{scope:Scope}{ds:List V}{kws:List (Str×V)}{fd:FuncData}(hn:a5y tfs K=true)(hp:(g,q)∈tfs)(F:FunD K x q params body scope ds kws (He.fAd K (g,none)) fd)
  (TB:LamX.TabB base mg (He.cT K (g,none)).1 (He.cT K (g,none)).2): @aM3 ⟨aA2 K tfs,P,w,sc⟩ base mg q fd:=fun c hc=>by
 obtain⟨oc,od,dV,kV,doc,pm,an,cdv,ct,osl,rfl,lk,_,_,_⟩:=F.ex
 have e:(He.cT K (g,none)).1=c:=He.codeOf_eq (p:=(g,none)) lk hc
 subst e
 obtain⟨h1,h2⟩:=bX1 (of_decide_eq_true hn) hp
 exact⟨_,TB,h1,h2⟩
end Fz
namespace Fz
open PySem PySem.Spec L2
section
variable [aa0] [FnT]
def a7Y (P:Program)(w:World)(K:Fr')(mg:Str→Option Value)(base:Heap)(C:Nat→Addr)(lv:Nat)(x:Str)(m:List D→R D):Prop:=
 ∃k f fd ps,k≤lv∧FnOk P w K mg base (L2.CX P w) k f fd ps (spP K C m)∧mg x=some (.ref f)∧PySem.W.keepIn K (.ref f)=true∧Binds K fd ps []∧(x==("__debug__":Str))=false
theorem a7Y.up {P:Program}{w:World}{K:Fr'}{mg:Str→Option Value}{base:Heap}{C:Nat→Addr}{lv lv':Nat}{x:Str}{m:List D→R D}(h:a7Y P w K mg base C lv x m)(e:lv≤lv'):a7Y P w K mg base C lv' x m:=by
 obtain⟨k,f,fd,ps,hk,r⟩:=h
 exact⟨k,f,fd,ps,Nat.le_trans hk e,r⟩
end
end Fz
namespace Fz
open PySem PySem.Spec L2
def fits (n:Nat):Bool:=decide (n≤sizeLine)
section
variable {Φ:Nat→List D→R D} {F:Nat} {τ:Sd}
@[simp] theorem ev_var (i:Nat):ev Φ (.var i) τ=look τ i:=id rfl
@[simp] theorem c4V (i:Nat):ev Φ (.pk i) τ=peek τ i:=id rfl
@[simp] theorem a73 (d:D):ev Φ (.cst d) τ= .ok d:=id rfl
@[simp] theorem c40 (es:List E):ev Φ (.tup es) τ=(evs Φ es τ).bind fun ds=> .ok (.tuple ds):=id rfl
@[simp] theorem c42 (es:List E):ev Φ (.lst es) τ=(evs Φ es τ).bind fun ds=> .ok (.list ds):=id rfl
@[simp] theorem bX3 (o:U) (a:E):ev Φ (.u o a) τ=(ev Φ a τ).bind (o1 o):=id rfl
@[simp] theorem a75 (o:B) (a b:E):ev Φ (.b o a b) τ=(ev Φ a τ).bind fun x=>(ev Φ b τ).bind (o2 o x):=id rfl
@[simp] theorem ev_cut (a b c:E):ev Φ (.cut a b c) τ=(ev Φ a τ).bind fun x=>(ev Φ b τ).bind fun y=>(asI y).bind fun i=>(ev Φ c τ).bind fun z=>(asI z).bind fun j=>au5 x (some i) (some j):=id rfl
@[simp] theorem c43 (es:List E):ev Φ (.and es) τ=evA Φ es τ:=id rfl
@[simp] theorem c44 (es:List E):ev Φ (.or es) τ=evO Φ es τ:=id rfl
@[simp] theorem c46 (o p q:B) (a b c d:E):ev Φ (.chain3 o p q a b c d) τ=(ev Φ a τ).bind fun x=>(ev Φ b τ).bind fun y=>(o2 o x y).bind fun z=>(asB z).bind fun k=>if k=true then(ev Φ c τ).bind fun w=>(o2 p y w).bind fun z2=>(asB z2).bind fun k2=>if k2=true then(ev Φ d τ).bind fun w2=>o2 q w w2 else .ok (.bool false)else .ok (.bool false):=id rfl
@[simp] theorem c47 (o p:B) (a b c:E):ev Φ (.chain o p a b c) τ=(ev Φ a τ).bind fun x=>(ev Φ b τ).bind fun y=>(o2 o x y).bind fun z=>(asB z).bind fun k=>if k=true then(ev Φ c τ).bind fun w=>o2 p y w else .ok (.bool false):=id rfl
@[simp] theorem c48 (c a b:E):ev Φ (.ite c a b) τ=((ev Φ c τ).bind asB).bind fun k=>if k=true then ev Φ a τ else ev Φ b τ:=id rfl
@[simp] theorem ev_call (f:Nat) (es:List E):ev Φ (.call f es) τ=(evs Φ es τ).bind (Φ f):=id rfl
@[simp] theorem c5a (ks:List Str) (es:List E) (k:E):ev Φ (.sel ks es k) τ=(evs Φ es τ).bind fun vs=>(ev Φ k τ).bind (a5Z ks vs):=id rfl
@[simp] theorem c5b (g:Tg) (s c e:E):ev Φ (.comp g s c e) τ=(ev Φ s τ).bind fun d=>(ofO (itemsOf d)).bind fun ds=>
 (turns (fun x=>(ae8 g x (an7 τ g.slots)).bind fun τ2=>((ev Φ c τ2).bind asB).bind fun k=>
        if k=true then(ev Φ e τ2).bind fun y=> .ok (some y)else .ok none) ds).calm.bind fun ys=> .ok (.list ys):=id rfl
@[simp] theorem c5c (a b c:E):ev Φ (.get a b c) τ=(ev Φ a τ).bind fun d=>(bI8 d).bind fun kvs=>(ev Φ b τ).bind fun kk=>(ev Φ c τ).bind fun xx=>bI9 kvs kk xx:=id rfl
@[simp] theorem c5d (a b:E):ev Φ (.idx a b) τ=(ev Φ a τ).bind fun d=>(aK7 d).bind fun xs=>(ev Φ b τ).bind fun y=>bJ2 xs y:=id rfl
@[simp] theorem c5e (a b c:E):ev Φ (.zip3 a b c) τ=(ev Φ a τ).bind fun x=>(ev Φ b τ).bind fun y=>(ev Φ c τ).bind fun z=>z3R x y z:=id rfl
@[simp] theorem c5f (f:Nat) (e:E):ev Φ (.thunk f e) τ=aT3 (Φ f) (ev Φ e τ) (ev Φ e (ah5 τ)):=id rfl
@[simp] theorem c5h (i:Nat):look (ah5 τ) i=look τ i:=by
 unfold look ah5
 rw[List.getElem?_map]
 cases τ[i]? with
 |none=>rfl
 |some o=>cases o with
  |none=>rfl
  |some v=>cases v<;>rfl
@[simp] theorem c5j (xs ys zs:List D):z3R (.tuple xs) (.tuple ys) (.tuple zs)= .ok (.list (zipD3 xs ys zs)):=rfl
@[simp] theorem c5k (m:List D→R D) (d:D) (r:R D):aT3 m (.ok d) r=m [.bool true,d]:=rfl
@[simp] theorem c5l (m:List D→R D) (c k:Nat):aT3 m (.ex c) (.ex k)=m [.bool false,.int k]:=rfl
@[simp] theorem cz4:evs Φ [] τ= .ok []:=id rfl
@[simp] theorem cz5 (e:E) (r:List E):evs Φ (e::r) τ=(ev Φ e τ).bind fun x=>(evs Φ r τ).bind fun xs=> .ok (x::xs):=id rfl
@[simp] theorem c5p (e:E):evA Φ [e] τ=(ev Φ e τ).bind fun x=>(asB x).bind fun c=> .ok (.bool c):=id rfl
@[simp] theorem c5q (e e2:E) (r:List E):evA Φ (e::e2::r) τ=(ev Φ e τ).bind fun x=>(asB x).bind fun c=>if c=true then evA Φ (e2::r) τ else .ok (.bool false):=id rfl
@[simp] theorem c5r (e:E):evO Φ [e] τ=(ev Φ e τ).bind fun x=>(asB x).bind fun c=> .ok (.bool c):=id rfl
@[simp] theorem c5s (e e2:E) (r:List E):evO Φ (e::e2::r) τ=(ev Φ e τ).bind fun x=>(asB x).bind fun c=>if c=true then .ok (.bool true)else evO Φ (e2::r) τ:=id rfl
@[simp] theorem cA0 (b:Bool):asB (.bool b)= .ok b:=rfl
@[simp] theorem c5t (i:Int):asI (.int i)= .ok i:=rfl
@[simp] theorem cA2:xs Φ F [] τ= .nx τ:=id rfl
@[simp] theorem bX6 (s:S) (r:List S):xs Φ F (s::r) τ=(x1 Φ F s τ).thn fun τ2=>xs Φ F r τ2:=id rfl
@[simp] theorem c5u (o:SO):x1 Φ F (.st o) τ=xo Φ o τ:=id rfl
@[simp] theorem c5v (i k:Nat) (e:E):xo Φ (.put i k e) τ=(ev Φ e τ).toS fun d=>(ad2 τ i).toS fun st=>(a2z k st d).toS fun st'=> .nx (τ.set i (some (.sto st'))):=id rfl
@[simp] theorem c5z (i k:Nat) (e:E):xo Φ (.app i k e) τ=(if 3≤k then ad2 τ i else .no).toS fun st=>(ev Φ e τ).toS fun d=>(bJ8 k st d).toS fun st'=> .nx (τ.set i (some (.sto st'))):=id rfl
@[simp] theorem c5A (i f:Nat) (es:List E):xo Φ (.mex i f es) τ=(ad2 τ i).toS fun d=>(evs Φ es τ).toS fun ds=>(Φ f (d::ds)).toS (bL1 i τ):=id rfl
@[simp] theorem c5B (e:E):x1 Φ F (.ex e) τ=(ev Φ e τ).toS fun _=> .nx τ:=id rfl
@[simp] theorem bX9 (g:Tg) (e:E):x1 Φ F (.set g e) τ=(ev Φ e τ).toS fun d=>(ae8 g d τ).toS .nx:=id rfl
@[simp] theorem c5C (i:Nat) (e:E):x1 Φ F (.own i e) τ=(ev Φ e τ).toS fun d=>(match d with
 | .list xs=> .nx (τ.set i (some (.own xs)))
 | .dict kvs=> .nx (τ.set i (some (.dct kvs)))
 |_=> .no):=id rfl
@[simp] theorem cA3 (l:List (Nat×Bool×E)):x1 Φ F (.par l) τ=(evs Φ (l.map (·.2.2)) τ).toS fun ds=>(ah3 τ (l.map fun p=>(p.1,p.2.1)) ds).toS .nx:=id rfl
@[simp] theorem c5D (i:Nat) (e:E):x1 Φ F (.dupd i e) τ=(aF8 τ i).toS fun kvs=>(ev Φ e τ).toS fun y=>(bI2 y).toS fun ps=>if kvs.length+ps.length≤sizeLine then .nx (τ.set i (some (.dct (bI6 kvs ps))))else .no:=id rfl
@[simp] theorem c5E (i:Nat) (k:E):x1 Φ F (.dpop i k) τ=(aF8 τ i).toS fun kvs=>(ev Φ k τ).toS fun y=>if ab8 y=true∧ag5 kvs y=true then .nx (τ.set i (some (.dct (aR9 kvs y))))else .no:=id rfl
@[simp] theorem c5F (i v f:Nat) (e1 e2 r:E):x1 Φ F (.thl i v f e1 e2 r) τ=bK9 (Φ f) [ev Φ e1,ev Φ e2] (fun τ=>(ev Φ r τ).bind asB) i τ:=id rfl
@[simp] theorem c5H (i:Nat) (g:Tg) (s e:E):x1 Φ F (.tcx i g s e) τ=bL0 (fun τ=>(ev Φ s τ).bind fun d=>ofO (itemsOf d)) (ev Φ e) i g τ:=id rfl
@[simp] theorem c5J (k i j:Nat) (n e:E):x1 Φ F (.buck k i j n e) τ=bK8 (fun τ=>(ev Φ n τ).bind fun d=>ofO (itemsOf d)) (fun τ=>ev Φ e τ) i j τ:=id rfl
@[simp] theorem c5M (j i:Nat) (e:E):x1 Φ F (.lpop j i e) τ=(ownAt τ i).toS fun xs=>(ev Φ e τ).toS fun d=>(bK6 xs d).toS fun q=> .nx ((τ.set i (some (.own q.2))).set j (some (.val q.1))):=id rfl
@[simp] theorem c5O (i:Nat) (k v:E):x1 Φ F (.dset i k v) τ=(ev Φ v τ).toS fun y=>(aF8 τ i).toS fun kvs=>(ev Φ k τ).toS fun x=>if ab8 x=true∧kvs.length<sizeLine then .nx (τ.set i (some (.dct (ai9 kvs x y))))else .no:=id rfl
@[simp] theorem c5R (i j:Nat) (b:List S) (tbl:List (Nat×Nat)):x1 Φ F (.try_ i j b tbl) τ=bK0 (fun c=>tbl.lookup c) (xs Φ F b τ):=id rfl
@[simp] theorem c5S (k:Nat) (v:Bool) (b:List S):x1 Φ F (.tryk k v b) τ=bK3 k (.bool v) (xs Φ F b τ):=id rfl
@[simp] theorem c5T:ev Φ .dct0 τ= .ok (.dict []):=id rfl
@[simp] theorem c5U (k v:E):ev Φ (.dct1 k v) τ=(ev Φ k τ).bind fun x=>(ev Φ v τ).bind fun y=>if ab8 x=true then .ok (.dict [(x,y)])else .no:=id rfl
@[simp] theorem c5W (i:Nat) (es:List E):ev Φ (.fcl i es) τ=(ar9 τ i).bind fun g=>(evs Φ es τ).bind fun ds=>(Φ g ds).calm:=id rfl
@[simp] theorem c5Y (f:Nat) (es:List E) (caps:List Nat):ev Φ (.hof f es caps) τ=(evs Φ es τ).bind fun ds=>(looks τ caps).bind fun cs=>(Φ f (ds++cs)).calm:=id rfl
@[simp] theorem c5Z (k:TM) (a b:E):ev Φ (.tm k a b) τ=(ev Φ a τ).bind fun x=>(asS x).bind fun s=>(ev Φ b τ).bind fun y=>tmR k s y:=id rfl
@[simp] theorem c50 (a:E):ev Φ (.up a) τ=(ev Φ a τ).bind upR:=id rfl
@[simp] theorem c52 (a:E):ev Φ (.si a) τ=(ev Φ a τ).bind siR:=id rfl
@[simp] theorem c53 (x:Str) (kvs:List (D×D)) (a:E):ev Φ (.tg x kvs a) τ=(ev Φ a τ).bind (tgR kvs):=id rfl
@[simp] theorem c54 (k:Bool) (es:List E) (y z:Str) (a:E) (w:Option Str):ev Φ (.rpd k es y z a w) τ=(evs Φ es τ).bind fun ds=>(((ev Φ a τ).bind (rpR y z)).bind (sfR w)).bind fun d=> .ok (if k=true then .list (ds++[d])else .tuple (ds++[d])):=id rfl
@[simp] theorem c56 (s:Str):asS (.str s)= .ok s:=rfl
@[simp] theorem c57 (f:Nat) (a:E):ev Φ (.skey f a) τ=(ev Φ a τ).bind fun d=>(aK7 d).bind fun xs=>skR (Φ f) xs:=id rfl
@[simp] theorem c58:looks τ []= .ok []:=id rfl
@[simp] theorem c6b (i:Nat) (r:List Nat):looks τ (i::r)=(look τ i).bind fun d=>(looks τ r).bind fun ds=> .ok (d::ds):=id rfl
@[simp] theorem c6c (i:Nat):ev Φ (.plr i) τ=af5 τ i:=id rfl
@[simp] theorem c6d (i:Nat) (e:E):ev Φ (.idt i e) τ=(af5 τ i).bind fun p=>(ev Φ e τ).bind fun y=>bJ6 p y:=id rfl
@[simp] theorem c6h (p i k:Nat) (es:List E):ev Φ (.obd p i k es) τ=(ad2 τ i).bind fun d=>(evs Φ es τ).bind fun ds=>Φ k (d::ds):=id rfl
@[simp] theorem c6l (n:Bool) (i j k:Nat):ev Φ (.sq n i j k) τ=(ad2 τ i).bind fun a=>(ad2 τ j).bind fun b=>sqR n (Φ k [a,b]):=id rfl
@[simp] theorem c6m (n:Bool) (i:Nat) (e:E) (k:Nat):ev Φ (.sd n i e k) τ=(ad2 τ i).bind fun _=>(ev Φ e τ).bind fun d=>if a7b d=true then .ok (.bool n)else .no:=id rfl
@[simp] theorem c6q (a:E):ev Φ (.sit a) τ=((ev Φ a τ).bind (o1 .itm)).bind (o1 .sorted):=id rfl
@[simp] theorem c6u (i k:Nat):ev Φ (.sl i k) τ=(ad2 τ i).bind fun d=>bJ7 (Φ k [d]):=id rfl
@[simp] theorem c6v (i k:Nat) (es:List E):ev Φ (.obj i k es) τ=(ad2 τ i).bind fun d=>(evs Φ es τ).bind fun ds=>Φ k (d::ds):=id rfl
@[simp] theorem c6w (i k:Nat):ev Φ (.att i k) τ=(ad2 τ i).bind (a66 k):=id rfl
@[simp] theorem c6z (f i:Nat) (es:List E):ev Φ (.pcl f i es) τ=(af5 τ i).bind fun p=>(evs Φ es τ).bind fun ds=>Φ f (p::ds):=id rfl
@[simp] theorem c6A (i:Nat) (a b:E):x1 Φ F (.plv i a b) τ=(ev Φ a τ).toS fun x=>(ev Φ b τ).toS fun y=>a7d i x y τ:=id rfl
@[simp] theorem c6C (i:Nat) (a b:E) (es:List E):x1 Φ F (.plc i a b es) τ=(ev Φ a τ).toS fun x=>(ev Φ b τ).toS fun y=>(evs Φ es τ).toS fun zs=>if fits zs.length=true then .nx (τ.set i (some (.plv (.tuple [x,y,.tuple zs]))))else .no:=by
 have h:x1 Φ F (.plc i a b es) τ=(ev Φ a τ).toS fun x=>(ev Φ b τ).toS fun y=>(evs Φ es τ).toS fun zs=>if zs.length≤sizeLine then .nx (τ.set i (some (.plv (.tuple [x,y,.tuple zs]))))else .no:=rfl
 rw[h]
 unfold fits
 simp only[decide_eq_true_eq]
@[simp] theorem c6D (i:Nat):af5 [] i= .no:=by simp[af5]
@[simp] theorem c6E (d:D) (r:Sd):af5 (some (.plv d)::r) 0= .ok d:=rfl
@[simp] theorem c6F (d:D) (r:Sd):af5 (some (.val d)::r) 0= .no:=rfl
@[simp] theorem c6H (a:Option Sv) (r:Sd) (i:Nat):af5 (a::r) (i+1)=af5 r i:=by simp[af5]
@[simp] theorem c6K {i j:Nat} {v:Option Sv} (h:i≠j):af5 (List.set τ i v) j=af5 τ j:=by simp[af5,List.getElem?_set_ne h]
@[simp] theorem c6O {i:Nat} {d:D} (h:i<τ.length):af5 (List.set τ i (some (.plv d))) i= .ok d:=by simp[af5,h]
@[simp] theorem c6P (i:Nat) (p q:D) (zs:List D):a7d i (.tuple [p,q]) (.list zs) τ= .nx (τ.set i (some (.plv (.tuple [p,q,.tuple zs])))):=id rfl
@[simp] theorem c6S (g:Nat) (r:Sd):ar9 (some (.fnc g)::r) 0= .ok g:=rfl
@[simp] theorem c6T (a:Option Sv) (r:Sd) (i:Nat):ar9 (a::r) (i+1)=ar9 r i:=by simp[ar9]
@[simp] theorem c6U (fs:List Nat) (k:E) (es:List E):ev Φ (.tab fs k es) τ=(ev Φ k τ).bind fun d=>(asI d).bind fun i=>(ofO (L2.atI (fs.map Φ) i)).bind fun m=>(evs Φ es τ).bind m:=id rfl
@[simp] theorem c6W (i:Nat):x1 Φ F (.reto i) τ=(ownAt τ i).toS .rf:=id rfl
@[simp] theorem cA4 (e:E):x1 Φ F (.ret e) τ=(ev Φ e τ).toS .rt:=id rfl
@[simp] theorem cA5 (c:E) (a b:List S):x1 Φ F (.ife c a b) τ=((ev Φ c τ).bind asB).toS fun k=>if k=true then xs Φ F a τ else xs Φ F b τ:=id rfl
@[simp] theorem c6X (g:Tg) (e:E) (b:List S):x1 Φ F (.for_ g e b) τ=((ev Φ e τ).bind fun d=>ofO (itemsOf d)).toS fun ds=>as3 (fun x τ=>(ae8 g x τ).toS (fun τ2=>xs Φ F b τ2)) ds τ:=id rfl
@[simp] theorem cA7 (c:E) (b:List S):x1 Φ F (.whl c b) τ=aw1 (fun τ=>(ev Φ c τ).bind asB) (fun τ=>xs Φ F b τ) F τ:=id rfl
@[simp] theorem c6Y (i:Nat) (e:E):x1 Φ F (.app i e) τ=(ownAt τ i).toS fun xs=>(ev Φ e τ).toS fun d=>if fits (xs.length+1)=true then .nx (τ.set i (some (.own (xs++[d]))))else .no:=by
 have h:x1 Φ F (.app i e) τ=(ownAt τ i).toS fun xs=>(ev Φ e τ).toS fun d=>if xs.length<sizeLine then .nx (τ.set i (some (.own (xs++[d]))))else .no:=rfl
 rw[h]
 unfold fits
 simp only[decide_eq_true_eq,Nat.succ_le_iff]
@[simp] theorem c60 (i:Nat) (e:E):x1 Φ F (.ext i e) τ=(ownAt τ i).toS fun xs=>(ev Φ e τ).toS fun d=>(ofO (ao5 d)).toS fun ys=>if fits (xs.length+ys.length)=true then .nx (τ.set i (some (.own (xs++ys))))else .no:=by
 have h:x1 Φ F (.ext i e) τ=(ownAt τ i).toS fun xs=>(ev Φ e τ).toS fun d=>(ofO (ao5 d)).toS fun ys=>if xs.length+ys.length≤sizeLine then .nx (τ.set i (some (.own (xs++ys))))else .no:=rfl
 rw[h]
 unfold fits
 simp only[decide_eq_true_eq]
@[simp] theorem c61 (c:Nat):x1 Φ F (.raise c) τ= .ex c:=id rfl
@[simp] theorem c63:x1 Φ F .pass τ= .nx τ:=id rfl
@[simp] theorem c64 (l:List Nat) (s:S):x1 Φ F (.fz l s) τ=x1 Φ F s (frz τ l):=id rfl
@[simp] theorem c67 (f:D→Sd→SR):as3 f [] τ= .nx τ:=id rfl
@[simp] theorem c7j (f:D→Sd→SR) (x:D) (r:List D):as3 f (x::r) τ=(f x τ).thn (as3 f r):=id rfl
@[simp] theorem bY1 (i:Nat) (d:D):ae8 (.one i) d τ= .ok (τ.set i (some (.val d))):=rfl
@[simp] theorem c7k (i:Nat):(Tg.one i).slots=[i]:=rfl
@[simp] theorem c7o (is:List Nat):(Tg.tup is).slots=is:=rfl
@[simp] theorem c7r:an7 τ []=τ:=rfl
@[simp] theorem c7s (v:Nat) (vs:List Nat):an7 τ (v::vs)=(an7 τ vs).set v none:=rfl
@[simp] theorem c7u (i:Nat):look [] i= .no:=by simp[look]
@[simp] theorem a79 (d:D) (r:Sd):look (some (.val d)::r) 0= .ok d:=rfl
@[simp] theorem a8a (a:Option Sv) (r:Sd) (i:Nat):look (a::r) (i+1)=look r i:=by simp[look]
@[simp] theorem c7v (d:D) (r:Sd):peek (some (.val d)::r) 0= .ok d:=rfl
@[simp] theorem c7w (xs:List D) (r:Sd):peek (some (.own xs)::r) 0= .ok (.list xs):=rfl
@[simp] theorem c7z (a:Option Sv) (r:Sd) (i:Nat):peek (a::r) (i+1)=peek r i:=by simp[peek]
@[simp] theorem cA8:ah3 τ [] []= .ok τ:=rfl
@[simp] theorem cB3 (i:Nat) (is:List (Nat×Bool)) (d:D) (ds:List D):ah3 τ ((i,false)::is) (d::ds)=ah3 (τ.set i (some (.val d))) is ds:=rfl
@[simp] theorem c7A {α:Type} (a:α):ofO (some a)= .ok a:=rfl
@[simp] theorem c7B (xs:List D):itemsOf (.list xs)=some xs:=rfl
@[simp] theorem c7D (xs:List D):itemsOf (.tuple xs)=some xs:=rfl
@[simp] theorem items_str (s:Str):itemsOf (.str s)=some (s.cps.toList.map fun c=> .str ⟨#[c]⟩):=rfl
end
theorem run_eq {Φ:Nat→List D→R D}{F n k:Nat}{body:List S}{ds:List D}(h:ds.length=k):run Φ F n k body ds=(match xs Φ F body (ad8 n ds)with
 | .rt d=> .ok d
 | .rf xs=> .ok (.list xs)
 | .nx _=> .ok .none
 | .ex c=> .ex c
 | .no=> .no):=if_pos h
theorem cB7 {α:Type}{xs:List α}{b:α→Bool}:boolsOf (xs.map fun a=> .bool (b a))=some (xs.map b):=by
 induction xs with
 |nil=>rfl
 |cons a xs ih=>simp[boolsOf,ih]
theorem all_map {α:Type}{xs:List α}{b:α→Bool}:o1 .all (.list (xs.map fun a=> .bool (b a)))= .ok (.bool (xs.all b)):=by
 simp[o1,cB7]
@[simp] theorem a8b (a b:Str):PyData.eqv (.str a) (.str b)=decide (a=b):=by
 show(a==b)=decide (a=b)
 by_cases h:a=b<;>simp[h]
def ct (ws:List Str):D:= .tuple (ws.map .str)
theorem a8f {w:Str}{ws:List Str}:memD (.str w) (ws.map .str)=decide (w∈ws):=by
 induction ws with
 |nil=>rfl
 |cons x r ih=>
  have:memD (.str w) ((x::r).map .str)=(decide (x=w)||memD (.str w) (r.map .str)):=by
   simp[memD]
  rw[this,ih]
  by_cases h:x=w
  ·simp[h]
  ·simp[h,show ¬w=x from fun e=>h e.symm]
def fin:SR→R D
 | .rt d=> .ok d
 | .rf xs=> .ok (.list xs)
 | .nx _=> .ok .none
 | .ex c=> .ex c
 | .no=> .no
@[simp] theorem c7E (xs:List D):fin (.rf xs)= .ok (.list xs):=rfl
@[simp] theorem c7G (d:D):fin (.rt d)= .ok d:=rfl
@[simp] theorem c7H (τ:Sd):fin (.nx τ)= .ok .none:=rfl
@[simp] theorem c7J (c:Nat):fin (.ex c)= .ex c:=rfl
theorem cB8 {Φ:Nat→List D→R D}{F n k:Nat}{body:List S}{ds:List D}(h:ds.length=k):run Φ F n k body ds=fin (xs Φ F body (ad8 n ds)):=by
 rw[run_eq h];cases xs Φ F body (ad8 n ds)<;>rfl
@[simp] theorem c7M (r:R D) (k:Sd→SR):fin ((r.toS SR.rt).thn k)=r:=by cases r<;>rfl
@[simp] theorem c7N (r:R D):fin (r.toS SR.rt)=r:=by cases r<;>rfl
@[simp] theorem c7R (xs:List D):o1 .emp (.list xs)= .ok (.bool xs.isEmpty):=rfl
@[simp] theorem c7S (xs:List D):o1 .emp (.tuple xs)= .ok (.bool xs.isEmpty):=rfl
@[simp] theorem c7T (b:Bool):o1 .nt (.bool b)= .ok (.bool !b):=rfl
@[simp] theorem c7U (i:Int):o1 .neg (.int i)= .ok (.int (-i)):=rfl
@[simp] theorem c7X:o1 .isStr (.none:D)= .ok (.bool (isStr (.none:D))):=rfl
@[simp] theorem c71 (b:Bool):o1 .isStr (.bool b)= .ok (.bool (isStr (.bool b))):=rfl
@[simp] theorem c72 (i:Int):o1 .isStr (.int i)= .ok (.bool (isStr (.int i))):=rfl
@[simp] theorem c74 (x:Str):o1 .isStr (.str x)= .ok (.bool (isStr (.str x))):=rfl
@[simp] theorem c75 (xs:List D):o1 .isStr (.list xs)= .ok (.bool (isStr (.list xs))):=rfl
@[simp] theorem c76 (xs:List D):o1 .isStr (.tuple xs)= .ok (.bool (isStr (.tuple xs))):=rfl
@[simp] theorem c77:o1 .isTup (.none:D)= .ok (.bool (isTup (.none:D))):=rfl
@[simp] theorem c8a (b:Bool):o1 .isTup (.bool b)= .ok (.bool (isTup (.bool b))):=rfl
@[simp] theorem c8c (i:Int):o1 .isTup (.int i)= .ok (.bool (isTup (.int i))):=rfl
@[simp] theorem c8f (x:Str):o1 .isTup (.str x)= .ok (.bool (isTup (.str x))):=rfl
@[simp] theorem c8h (xs:List D):o1 .isTup (.list xs)= .ok (.bool (isTup (.list xs))):=rfl
@[simp] theorem c8i (xs:List D):o1 .isTup (.tuple xs)= .ok (.bool (isTup (.tuple xs))):=rfl
@[simp] theorem c8j:o1 .ag4 (.none:D)= .ok (.bool (ag4 (.none:D))):=rfl
@[simp] theorem c8k (b:Bool):o1 .ag4 (.bool b)= .ok (.bool (ag4 (.bool b))):=rfl
@[simp] theorem c8n (i:Int):o1 .ag4 (.int i)= .ok (.bool (ag4 (.int i))):=rfl
@[simp] theorem c8o (x:Str):o1 .ag4 (.str x)= .ok (.bool (ag4 (.str x))):=rfl
@[simp] theorem c8s (xs:List D):o1 .ag4 (.list xs)= .ok (.bool (ag4 (.list xs))):=rfl
@[simp] theorem c8t (xs:List D):o1 .ag4 (.tuple xs)= .ok (.bool (ag4 (.tuple xs))):=rfl
@[simp] theorem c8v:o1 .isInt (.none:D)= .ok (.bool (isInt (.none:D))):=rfl
@[simp] theorem c8x (b:Bool):o1 .isInt (.bool b)= .ok (.bool (isInt (.bool b))):=rfl
@[simp] theorem c8y (i:Int):o1 .isInt (.int i)= .ok (.bool (isInt (.int i))):=rfl
@[simp] theorem c8z (x:Str):o1 .isInt (.str x)= .ok (.bool (isInt (.str x))):=rfl
@[simp] theorem c8B (xs:List D):o1 .isInt (.list xs)= .ok (.bool (isInt (.list xs))):=rfl
@[simp] theorem c8C (xs:List D):o1 .isInt (.tuple xs)= .ok (.bool (isInt (.tuple xs))):=rfl
@[simp] theorem c8D:o1 .isBool (.none:D)= .ok (.bool (isBool (.none:D))):=rfl
@[simp] theorem c8G (b:Bool):o1 .isBool (.bool b)= .ok (.bool (isBool (.bool b))):=rfl
@[simp] theorem c8H (i:Int):o1 .isBool (.int i)= .ok (.bool (isBool (.int i))):=rfl
@[simp] theorem c8M (x:Str):o1 .isBool (.str x)= .ok (.bool (isBool (.str x))):=rfl
@[simp] theorem c8N (xs:List D):o1 .isBool (.list xs)= .ok (.bool (isBool (.list xs))):=rfl
@[simp] theorem c8O (xs:List D):o1 .isBool (.tuple xs)= .ok (.bool (isBool (.tuple xs))):=rfl
@[simp] theorem c8Q (s:Str):isStr (.str s)=true:=rfl
@[simp] theorem c8S (s:List D):isTup (.tuple s)=true:=rfl
@[simp] theorem c8T (xs:List D):o1 .len (.tuple xs)= .ok (.int xs.length):=rfl
@[simp] theorem cC3 (xs:List D):o1 .len (.list xs)= .ok (.int xs.length):=rfl
@[simp] theorem c8X (s:Str):o1 .len (.str s)= .ok (.int s.length):=rfl
@[simp] theorem c8Y (xs:List D):o1 .tup (.list xs)= .ok (.tuple xs):=rfl
@[simp] theorem c8Z (s:Str):o1 .lsts (.str s)= .ok (.list (s.cps.toList.map fun c=> .str ⟨#[c]⟩)):=rfl
@[simp] theorem c80 (s:Str):o1 .tup (.str s)= .ok (.tuple (s.cps.toList.map fun c=> .str ⟨#[c]⟩)):=rfl
@[simp] theorem c81 (xs:List D):o1 .tup (.tuple xs)= .ok (.tuple xs):=rfl
@[simp] theorem c82 (xs:List D):o1 .lst (.list xs)= .ok (.list xs):=rfl
@[simp] theorem c84 (xs:List D):o1 .lst (.tuple xs)= .ok (.list xs):=rfl
@[simp] theorem cC4 (i:Int):o1 .int (.int i)= .ok (.int i):=rfl
@[simp] theorem cC6 (i j:Int):o2 .add (.int i) (.int j)= .ok (.int (i+j)):=rfl
@[simp] theorem c85 (i j:Int):o2 .sub (.int i) (.int j)= .ok (.int (i-j)):=rfl
@[simp] theorem c86 (i j:Int):o2 .lt (.int i) (.int j)= .ok (.bool (decide (i<j))):=rfl
@[simp] theorem c87 (i j:Int):o2 .le (.int i) (.int j)= .ok (.bool (decide (i≤j))):=rfl
@[simp] theorem cC9 (i j:Int):o2 .gt (.int i) (.int j)= .ok (.bool (decide (j<i))):=rfl
@[simp] theorem c88 (i j:Int):o2 .ge (.int i) (.int j)= .ok (.bool (decide (j≤i))):=rfl
@[simp] theorem c9a (a b:Str):o2 .lt (.str a) (.str b)= .ok (.bool (decide (a.cps.toList<b.cps.toList))):=rfl
@[simp] theorem cD1 (i j:Int):o2 .max2 (.int i) (.int j)= .ok (.int (if j>i then j else i)):=rfl
@[simp] theorem c9c (a b:D):o2 .mint2 a b=if sortable [a,b]=true then .ok (if ltD b a=true then b else a)else .no:=by cases a<;>cases b<;>rfl
@[simp] theorem c9d (kvs:List (D×D)):o1 .itm (.dict kvs)=if isI kvs=false then .ok (.list (kvs.map fun p=> .tuple [p.1,p.2]))else .no:=id rfl
@[simp] theorem c9e (xs:List D):aK7 (.list xs)= .ok xs:=id rfl
@[simp] theorem c9f (i j:Int):o2 .min2 (.int i) (.int j)= .ok (.int (if j<i then j else i)):=rfl
@[simp] theorem c9i:noD .none=true:=rfl
@[simp] theorem c9j (b:Bool):noD (.bool b)=true:=rfl
@[simp] theorem c9l (b:Int):noD (.int b)=true:=rfl
@[simp] theorem c9m (b:Str):noD (.str b)=true:=rfl
@[simp] theorem c9n (xs:List D):noD (.list xs)=ad7 xs:=rfl
@[simp] theorem c9s (xs:List D):noD (.tuple xs)=ad7 xs:=rfl
@[simp] theorem c9v:ad7 []=true:=rfl
@[simp] theorem c9y (x:D) (xs:List D):ad7 (x::xs)=(noD x&&ad7 xs):=rfl
@[simp] theorem cD4: ∀(xs ys:List D),ad7 (xs++ys)=(ad7 xs&&ad7 ys)
 | [],ys=>rfl
 |x::r,ys=>by simp[cD4 r ys,Bool.and_assoc]
@[simp] theorem cD5 {α:Type} (f:α→D): ∀(xs:List α),ad7 (xs.map f)=xs.all fun x=>noD (f x)
 | []=>rfl
 |x::r=>by simp[cD5 f r]
@[simp] theorem c9z (n:Nat) (d:D):ad7 (List.replicate n d)=(n==0||noD d):=by
 induction n with
 |zero=>rfl
 |succ n ih=>cases h:noD d<;>simp[List.replicate_succ,ih,h]
@[simp] theorem c9D (ws:List Str):noD (ct ws)=true:=by simp[ct]
theorem aW0 {a b:D}(h:ac5 a b=true):o2 .eq a b= .ok (.bool (PyData.eqv a b)):=by
 have:o2 .eq a b=if ac5 a b=true then R.ok (.bool (PyData.eqv a b))else .no:=by
  cases a<;>cases b<;>first|rfl|(simp[ac5,noD]at h)
 rw[this,if_pos h]
theorem aW1 {a b:D}(h:ac5 a b=true):o2 .ne a b= .ok (.bool (!PyData.eqv a b)):=by
 have:o2 .ne a b=if ac5 a b=true then R.ok (.bool (!PyData.eqv a b))else .no:=by
  cases a<;>cases b<;>first|rfl|(simp[ac5,noD]at h)
 rw[this,if_pos h]
theorem at7 {a b:D}(h:a.depth≤60)(h1:noD a=true)(h2:noD b=true):ac5 a b=true:=by unfold ac5;simp[h1,h2];omega
theorem a8i {a b:D}(h:b.depth≤60)(h1:noD a=true)(h2:noD b=true):ac5 a b=true:=by unfold ac5;simp[h1,h2];omega
theorem aW2 (s:Str):(PyData.str s).depth≤60:=by simp[PyData.depth]
theorem bY3 (s:Int):(PyData.int s).depth≤60:=by simp[PyData.depth]
theorem cD6 (s:Bool):(PyData.bool s).depth≤60:=by simp[PyData.depth]
theorem cD9:(PyData.tuple []).depth≤60:=by simp[PyData.depth,PyData.depthAll]
theorem bY4:(PyData.list []).depth≤60:=by simp[PyData.depth,PyData.depthAll]
theorem bY8: ∀ws:List Str,PyData.depthAll (ws.map .str)≤1
 | []=>by simp[PyData.depthAll]
 |w::ws=>by
  have:=bY8 ws
  simp[PyData.depthAll,PyData.depth];omega
theorem bY9 (ws:List Str):(ct ws).depth≤60:=by
 have:=bY8 ws
 simp[ct,PyData.depth];omega
theorem cE1 {a:D}{ys:List D}(h:a.depth≤60)(h1:noD a=true)(h2:ad7 ys=true):o2 .mem a (.tuple ys)= .ok (.bool (memD a ys)):=by
 have:o2 .mem a (.tuple ys)=if ac5 a (.tuple ys)=true then R.ok (.bool (memD a ys))else .no:=by cases a<;>rfl
 rw[this,if_pos (at7 h h1 (by simpa using h2))]
theorem cE2 {a:D}{ys:List D}(h:a.depth≤60)(h1:noD a=true)(h2:ad7 ys=true):o2 .mem a (.list ys)= .ok (.bool (memD a ys)):=by
 have:o2 .mem a (.list ys)=if ac5 a (.list ys)=true then R.ok (.bool (memD a ys))else .no:=by cases a<;>rfl
 rw[this,if_pos (at7 h h1 (by simpa using h2))]
theorem cE4 {a:D}{ys:List D}(h:a.depth≤60)(h1:noD a=true)(h2:ad7 ys=true):o2 .nmem a (.tuple ys)= .ok (.bool (!memD a ys)):=by
 have:o2 .nmem a (.tuple ys)=if ac5 a (.tuple ys)=true then R.ok (.bool (!memD a ys))else .no:=by cases a<;>rfl
 rw[this,if_pos (at7 h h1 (by simpa using h2))]
@[simp] theorem c9E (w:Str) (ws:List Str):o2 .mem (.str w) (ct ws)= .ok (.bool (decide (w∈ws))):=by
 rw[ct,cE1 (aW2 w) rfl (by simp),a8f]
@[simp] theorem c9F (w:Str) (ws:List Str):o2 .mem (.str w) (.list (ws.map .str))= .ok (.bool (decide (w∈ws))):=by
 rw[cE2 (aW2 w) rfl (by simp),a8f]
@[simp] theorem c9G (a b:Str):o2 .eq (.str a) (.str b)= .ok (.bool (decide (a=b))):=by rw[aW0 (at7 (aW2 a) rfl rfl),a8b]
@[simp] theorem c9I (a b:Str):o2 .ne (.str a) (.str b)= .ok (.bool (!decide (a=b))):=by rw[aW1 (at7 (aW2 a) rfl rfl),a8b]
@[simp] theorem c9J (a b:Int):o2 .eq (.int a) (.int b)= .ok (.bool (decide (a=b))):=by
 rw[aW0 (at7 (bY3 a) rfl rfl)]
 show R.ok (PyData.bool (a==b))=_
 by_cases h:a=b<;>simp[h]
@[simp] theorem c9L (a b:Int):o2 .ne (.int a) (.int b)= .ok (.bool (!decide (a=b))):=by
 rw[aW1 (at7 (bY3 a) rfl rfl)]
 show R.ok (PyData.bool (!(a==b)))=_
 by_cases h:a=b<;>simp[h]
theorem a8j: ∀(xs:List D),PyData.eqvAll xs []=xs.isEmpty
 | []=>rfl
 |_::_=>rfl
@[simp] theorem cE5 {xs:List D} (h:ad7 xs=true):o2 .eq (.tuple xs) (.tuple [])= .ok (.bool xs.isEmpty):=by
 rw[aW0 (a8i (a:= .tuple xs) cD9 h rfl)]
 show R.ok (PyData.bool (PyData.eqvAll xs []))=_
 rw[a8j]
@[simp] theorem c9P {xs:List D} (h:ad7 xs=true):o2 .eq (.list xs) (.list [])= .ok (.bool xs.isEmpty):=by
 rw[aW0 (a8i (a:= .list xs) bY4 h rfl)]
 show R.ok (PyData.bool (PyData.eqvAll xs []))=_
 rw[a8j]
@[simp] theorem cE6 {xs:List D} (h:ad7 xs=true):o2 .ne (.list xs) (.list [])= .ok (.bool (!xs.isEmpty)):=by
 rw[aW1 (a8i (a:= .list xs) bY4 h rfl)]
 show R.ok (PyData.bool (!PyData.eqvAll xs []))=_
 rw[a8j]
theorem a8k: ∀(a b:List Str),PyData.eqvAll (a.map .str) (b.map .str)=decide (a=b)
 | [],[]=>rfl
 | [],_::_=>rfl
 |_::_,[]=>rfl
 |x::a,y::b=>by
  show(PyData.eqv (.str x) (.str y)&&PyData.eqvAll (a.map .str) (b.map .str))=_
  rw[a8b,a8k a b]
  by_cases h:x=y<;>by_cases h2:a=b<;>simp[h,h2]
@[simp] theorem c9Q (a b:List Str):o2 .eq (ct a) (ct b)= .ok (.bool (decide (a=b))):=by
 rw[aW0 (at7 (bY9 a) (by simp) (by simp))]
 show R.ok (PyData.bool (PyData.eqvAll (a.map .str) (b.map .str)))=_
 rw[a8k]
@[simp] theorem c9S (a b:List Str):o2 .ne (ct a) (ct b)= .ok (.bool (!decide (a=b))):=by
 rw[aW1 (at7 (bY9 a) (by simp) (by simp))]
 show R.ok (PyData.bool (!PyData.eqvAll (a.map .str) (b.map .str)))=_
 rw[a8k]
@[simp] theorem c9T (a:List Str):o2 .eq (ct a) (.tuple [])= .ok (.bool a.isEmpty):=by
 rw[ct,cE5 (by simp)];simp
theorem cE7 (a b:Bool):PyData.eqv (.bool a) (.bool b)=decide (a=b):=by
 cases a<;>cases b<;>rfl
@[simp] theorem c9U (a b:Bool):o2 .ne (.bool a) (.bool b)= .ok (.bool (!decide (a=b))):=by
 rw[aW1 (at7 (cD6 a) rfl rfl),cE7]
@[simp] theorem c9V (a:List Str):itemsOf (ct a)=some (a.map .str):=rfl
end Fz
namespace Fz
open PySem PySem.Spec L2
abbrev PT:=List (Nat×Nat)
variable [aa0] [FnT]
end Fz
namespace Fz
open PySem PySem.Spec L2 PyProof.Rows
section
variable {X:Cx} {a D:Addr} {oe:Obj}
theorem bZ0 (C:ExcC X.K D)(hp:(a,oe)∈X.pn)(hz:Zc (.ref D) none oe)(hf: ∃vs,oe.data= .fields vs):CallR X (.builtin "isinstance") (rIsE X.K D a):=by
 intro pins s σ H xs us Q I r h
 obtain⟨c,cv,b,rfl,hcv,e,q⟩:=h
 cases r with
 |cons rx rr=>
  cases rr with
  |cons rt rr=>
   cases rr
   cases rx
   have ec:=hcv _ rt
   subst ec
   obtain⟨hget,_⟩:=I.pin (a,oe) (List.mem_append_left _ hp)
   obtain⟨vs,hv⟩:=hf
   have J:PySem.W.InstAt s.heap a oe D none:=by
        obtain⟨oc,od,oda,osl⟩:=oe
        obtain⟨h1,h2⟩:=hz
        dsimp only at h1 h2 hv
        subst h1 h2 hv
        exact⟨hget,rfl,rfl,trivial⟩
   exact PySem.W.kia_one (PySem.W.handS_kitx_exc C.hg C.hk C.hs C.hd C.ha C.hn C.ht C.hm) I.kIn J e (fun z=>nomatch z) fun tk=>⟨.bl b,H,I.kept (t':=tk) fun _ _ z=>z,rfl,q⟩
def cE8 (K:PySem.W.Frag):V→List V→Hp→VK→Prop:=fun x xs H Q=> ∃(p:Addr) (ys:List V) (y:V),x= .ref p∧xs=[y]∧SqL K H p ys∧flatV y=true∧ys.all flatV=true∧Q (.int (ys.countP (fun z=>eqV z y):Nat)) H
theorem bZ1 {y:V}: ∀ {ys:List V} {us:List Value},Vals ys us→ys.all flatV=true→us.countP (eqU y)=ys.countP fun z=>eqV z y
 |_,_,.nil,_=>rfl
 |z::ys,u::us,.cons r t,f=>by
  rw[List.all_cons,Bool.and_eq_true]at f
  rw[List.countP_cons,List.countP_cons,bZ1 t f.2,eqU_of r f.1]
theorem cE9:MtR X "list.count" (cE8 X.K):=by
 intro pins s σ H x xs v us Q I rx rxs h
 obtain⟨p,ys,y,rfl,rfl,hs,fy,fys,q⟩:=h
 cases rx
 obtain⟨u,rfl,ru⟩:=rxs.one
 obtain⟨its,rv,⟨⟨cls,dd,data,sl⟩,n,ho,hc,hdn,hd⟩,hlen⟩:=I.list hs
 simp only at hc hd
 subst hc hd
 refine call_meets PySem.F.slot_list_count ⟨_,ho,rfl⟩ PySem.F.entry_list_count (PySem.F.args_list_count_2 _ _)
  (SeqAt.list_countAt p its.toArray n dd sl u (eqU y)) ⟨ho,fun z hz=>mem_eqAt ru fy rv fys z (by simpa using hz),?_⟩
 refine⟨.int (ys.countP (fun z=>eqV z y):Nat),H,I.tok _,⟨s.toks,?_⟩,q⟩
 show Value.int ((its.toArray.toList.countP (eqU y):Nat):Int) s.toks=Value.int ((ys.countP (fun z=>eqV z y):Nat):Int) s.toks
 rw[show its.toArray.toList=its from rfl,bZ1 rv fys]
end
def HT (X:Cx)(ss:List Stmt)(Pre Post:L2.St→Hp→Prop)(Ret:V→Hp→Prop):Prop:= ∃t:TS,PSs X ss t∧ ∀(D:Ends) σ H,Pre σ H→(∀σ' H',Post σ' H'→D.nx σ' H')→(∀v H',Ret v H'→D.rt v H')→t D σ H
def HT1 (X:Cx)(s:Stmt)(Pre Post:L2.St→Hp→Prop)(Ret:V→Hp→Prop):Prop:= ∃t:TS,PS X s t∧ ∀(D:Ends) σ H,Pre σ H→(∀σ' H',Post σ' H'→D.nx σ' H')→(∀v H',Ret v H'→D.rt v H')→t D σ H
section
variable {X:Cx} {s:Stmt} {ss:List Stmt} {P Q R:L2.St→Hp→Prop} {Z:V→Hp→Prop}
theorem HT.nil (h: ∀σ H,P σ H→Q σ H):HT X [] P Q Z:=⟨_,pss_nil,fun D σ H p f _=>f σ H (h σ H p)⟩
theorem HT.cons (h1:HT1 X s P Q Z)(h2:HT X ss Q R Z):HT X (s::ss) P R Z:=by
 obtain⟨t,a,b⟩:=h1
 obtain⟨u,c,d⟩:=h2
 exact⟨_,pss_cons a c,fun D σ H p f g=>b _ σ H p (fun σ' H' q=>d D σ' H' q f g) g⟩
def Rd1 (X:Cx)(e:Expr)(Pre:L2.St→Hp→Prop)(Val:V→L2.St→Hp→Prop):Prop:= ∃t:TE,PE X e t∧ ∀σ H (Q:VK),Pre σ H→(∀v H',Val v σ H'→Q v H')→t σ H Q
theorem HT1.ret {e:Expr}{pos:Pos}{Val:V→L2.St→Hp→Prop}(h:Rd1 X e P Val)(hz: ∀v σ H,Val v σ H→Z v H):HT1 X (.Return (some e) pos) P Q Z:=by
 obtain⟨t,a,b⟩:=h
 exact⟨_,ps_ret a,fun D σ H p _ g=>b σ H _ p fun v H' q=>g v H' (hz v σ H' q)⟩
theorem HT1.set {e:Expr}{i:Nat}{x:Str}{pos pos':Pos}{Val:V→L2.St→Hp→Prop}(hN:X.N.Nodup)(hi:X.N[i]? =some x)(hx:Loc X.env.scope x)(hf:X.fn x=true∨X.env.scope.names.lookup x=some .local)
  (h:Rd1 X e P Val) (hz: ∀v σ H,Val v σ H→Q (σ.set i (some v)) H) (hs:swapsWith e (some (.Name x pos')) pos.line X.env=pure false):HT1 X (.Assign [.Name x pos'] e pos) P Q Z:=by
 obtain⟨t,a,b⟩:=h
 exact⟨_,ps_set (pos':=pos') hN hi hx a hs hf,fun D σ H p f _=>b σ H _ p fun v H' q=>f _ H' (hz v σ H' q)⟩
end
end Fz
namespace Fz
open PySem PySem.Spec L2 PyProof.Rows
variable [aa0] [FnT]
structure Slt (X:Cx)(x:Str)(i:Nat):Prop where
 at_:X.N[i]? =some x
 vis:Vis X.env.scope x
 d1:(x==("__debug__":Str))=false
 d2:(x==("__classdict__":Str))=false
theorem Slt.pe {X:Cx}{x:Str}{i:Nat}{p:Pos}(s:Slt X x i):PE X (.Name x p) (tVar i):=pe_var s.at_ s.vis s.d1 s.d2
inductive Atm (X:Cx)(D:Addr)(fa:Str):Expr→V→Prop
 |is {x:Str} {c:Addr} {b:Bool} {p p1 p2 pos:Pos}:Gl X x→X.mg x=some (.ref c)→(x==("__debug__":Str))=false→PySem.W.kitOne X.K (.ref D) (.ref c)=some b→Atm X D fa (.Call (.Name "isinstance" p) [.Name fa p1,.Name x p2] [] pos) (.bl b)
 |st {z:Str} {j:Nat} {p:Pos}:Atm X D fa (.Constant (.str z) j p) (.str z)
inductive aH4 (X:Cx)(D:Addr)(fa:Str):List Expr→List V→Prop
 |nil:aH4 X D fa [] []
 |cons {e:Expr} {v:V} {es:List Expr} {vs:List V}:Atm X D fa e v→aH4 X D fa es vs→aH4 X D fa (e::es) (v::vs)
structure Flt (X:Cx)(D a:Addr)(fa:Str):Prop where
 exc:ExcC X.K D
 pin: ∃oe,(a,oe)∈X.pn∧Zc (.ref D) none oe∧ ∃vs,oe.data= .fields vs
 slot:Slt X fa 0
 gl:Gl X "isinstance"
 mg:X.mg "isinstance"=none
section
variable {X:Cx} {D a:Addr} {fa:Str} (F:Flt X D a fa)
include F
theorem Atm.pe {e:Expr}{v:V}(h:Atm X D fa e v): ∃t:TE,PE X e t∧ ∀σ H (Q:VK),σ[0]? =some (some (.ref a))→Q v H→t σ H Q:=by
 cases h with
 |is hg hm hd hk=>
  obtain⟨oe,hp,hz,hf⟩:=F.pin
  refine⟨_,pe_callB (bZ0 F.exc hp hz hf) F.gl F.mg (by decide+kernel) (pa_cons F.slot.pe (pa_cons (pe_glob (v:= .ref _) hg hm rfl hd) pa_nil rfl) rfl) (by decide) (by decide) rfl rfl,fun σ H Q hs hq=> ?_⟩
  exact⟨_,hs,.ref _,.ref _,_,rfl,fun u r=>r,hk,hq⟩
 |st=>exact⟨_,pe_str,fun σ H Q _ hq=>hq⟩
theorem aH4.pa {es:List Expr}{vs:List V}(h:aH4 X D fa es vs): ∃t:TA,PA X es t∧ ∀σ H (Q:List V→Hp→Prop),σ[0]? =some (some (.ref a))→Q vs H→t σ H Q:=by
 induction h with
 |nil=>exact⟨_,pa_nil,fun σ H Q _ hq=>hq⟩
 |cons h1 _ ih=>
  obtain⟨t,p1,q1⟩:=h1.pe F
  obtain⟨u,p2,q2⟩:=ih
  exact⟨_,pa_cons p1 p2 (by cases h1<;>rfl),fun σ H Q hs hq=>q1 σ H _ hs (q2 σ H _ hs hq)⟩
theorem pe_append {nm:Str}{j:Nat}{e:Expr}{v:V}{p1 ap cp:Pos}(S:Slt X nm j)(h:Atm X D fa e v)(hl:(ap.endLine==cp.line)=true):
  ∃t:TE,PE X (.Call (.Attribute (.Name nm p1) "append" ap) [e] [] cp) t∧ ∀σ H (Q:VK) p acc,σ[0]? =some (some (.ref a))→σ[j]? =some (some (.ref p))→H p=some (.lst acc)→acc.length<1000→Q .non (upd H p (.lst (acc++[v])))→t σ H Q:=by
 obtain⟨t,p2,q2⟩:=h.pe F
 have big:1000≤sizeLine:=by decide
 cases h with
 |is hg hm hd hk=>
  refine⟨_,pe_bm (X:=X) (apos:=ap) (cpos:=cp) PySem.F.plainAttrs_list PySem.F.slot_list_append PySem.F.type_list_append mt_append S.pe (pa_cons p2 pa_nil rfl) rfl rfl hl rfl rfl,fun σ H Q p acc h0 h1 hp hl hq=> ?_⟩
  exact⟨.ref p,h1,.inl ⟨rfl,_,.of hp⟩,q2 σ H _ h0 ⟨p,acc,_,rfl,rfl,hp,by omega,hq⟩⟩
 |st=>
  refine⟨_,pe_bm (X:=X) (apos:=ap) (cpos:=cp) PySem.F.plainAttrs_list PySem.F.slot_list_append PySem.F.type_list_append mt_append S.pe (pa_cons p2 pa_nil rfl) rfl rfl hl rfl rfl,fun σ H Q p acc h0 h1 hp hl hq=> ?_⟩
  exact⟨.ref p,h1,.inl ⟨rfl,_,.of hp⟩,q2 σ H _ h0 ⟨p,acc,_,rfl,rfl,hp,by omega,hq⟩⟩
theorem pe_extend {nm:Str}{j:Nat}{es:List Expr}{vs:List V}{p1 ap cp lp:Pos}(S:Slt X nm j)(h:aH4 X D fa es vs)(hl:(ap.endLine==cp.line)=true):
  ∃t:TE,PE X (.Call (.Attribute (.Name nm p1) "extend" ap) [.List es lp] [] cp) t∧ ∀σ H (Q:VK) p acc,σ[0]? =some (some (.ref a))→σ[j]? =some (some (.ref p))→H p=some (.lst acc)→acc.length+vs.length<1000→
   (∀q,H q=none→Q .non (upd (upd H q (.lst vs)) p (.lst (acc++vs))))→t σ H Q:=by
 obtain⟨t,p2,q2⟩:=h.pa F
 have big:1000≤sizeLine:=by decide
 refine⟨_,pe_bm (X:=X) (apos:=ap) (cpos:=cp) PySem.F.plainAttrs_list PySem.F.slot_list_extend PySem.F.type_list_extend bS5 S.pe (pa_cons (pe_lst (pos:=lp) p2) pa_nil rfl) rfl rfl hl rfl rfl,fun σ H Q p acc h0 h1 hp hz hq=> ?_⟩
 refine⟨.ref p,h1,.inl ⟨rfl,_,.of hp⟩,q2 σ H _ h0 ⟨by omega,fun q hn=> ?_⟩⟩
 have hpq:p≠q:=fun e=>by rw[e,hn]at hp;cases hp
 exact⟨p,q,acc,vs,rfl,rfl,by rw[upd_ne hpq];exact hp,.inl (.of upd_same),by omega,hq q hn⟩
end
end Fz
namespace Fz
open PySem PySem.Spec L2 PyProof.Rows
variable [aa0] [FnT]
abbrev Am:=Nat ⊕ Str
def glE (sc:Scope)(x:Str):Bool:=decide (sc.names.lookup x=some .globalImplicit)&& !(x==("__debug__":Str))
def amE (sc:Scope)(exs:List (Str×Nat))(kns:List Nat)(fa:Str):Expr→Option Am
 | .Call (.Name f _) [.Name e1 _,.Name x _] [] _=>if f==("isinstance":Str)&&e1==fa&&glE sc x then(exs.lookup x).bind fun n=>if kns.contains n then some (.inl n)else none else none
 | .Constant (.str z) _ _=>some (.inr z)
 |_=>none
def ax4 (sc:Scope)(exs:List (Str×Nat))(kns:List Nat)(fa:Str):List Expr→Option (List Am)
 | []=>some []
 |e::es=>(amE sc exs kns fa e).bind fun m=>(ax4 sc exs kns fa es).map (m:: ·)
def amV (isv:Nat→Bool):Am→V
 | .inl n=> .bl (isv n)
 | .inr z=> .str z
def grow (sc:Scope)(exs:List (Str×Nat))(kns:List Nat)(fa nm:Str):List Stmt→List Am×List Stmt
 |  .Expr (.Call (.Attribute (.Name n p1) m ap) [x] [] cp) ep::r=>
    if n==nm&&(ap.endLine==cp.line)then
     (if m==("append":Str)then(match amE sc exs kns fa x with
      |some v=>(v::(grow sc exs kns fa nm r).1,(grow sc exs kns fa nm r).2)
      |none=>([],.Expr (.Call (.Attribute (.Name n p1) m ap) [x] [] cp) ep::r))
     else if m==("extend":Str)then(match x with
      |   .List es lp=>(match ax4 sc exs kns fa es with
          |some vs=>(vs++(grow sc exs kns fa nm r).1,(grow sc exs kns fa nm r).2)
          |none=>([],.Expr (.Call (.Attribute (.Name n p1) m ap) [.List es lp] [] cp) ep::r))
      |y=>([],.Expr (.Call (.Attribute (.Name n p1) m ap) [y] [] cp) ep::r))
     else([],.Expr (.Call (.Attribute (.Name n p1) m ap) [x] [] cp) ep::r))
    else([],.Expr (.Call (.Attribute (.Name n p1) m ap) [x] [] cp) ep::r)
 |ss=>([],ss)
structure a8l (X:Cx)(C:Nat→Addr)(exs:List (Str×Nat))(kns:List Nat)(isv:Nat→Bool)(D:Addr):Prop where
 ex: ∀x n,exs.lookup x=some n→X.mg x=some (.ref (C n))
 is: ∀n∈kns,PySem.W.kitOne X.K (.ref D) (.ref (C n))=some (isv n)
section
variable {X:Cx} {C:Nat→Addr} {exs:List (Str×Nat)} {kns:List Nat} {isv:Nat→Bool} {D a:Addr} {fa:Str} (Wd:a8l X C exs kns isv D)
include Wd
theorem bZ2 {e:Expr}{m:Am}(h:amE X.env.scope exs kns fa e=some m):Atm X D fa e (amV isv m):=by
 unfold amE at h
 split at h
 ·rename_i f p e1 p1 x p2 pos
  split at h
  ·rename_i hc
   simp only[Bool.and_eq_true,beq_iff_eq,glE,decide_eq_true_eq,Bool.not_eq_true']at hc
   obtain⟨⟨rfl,rfl⟩,h1,h2⟩:=hc
   cases hx:exs.lookup x with
   |none=>rw[hx]at h;cases h
   |    some n=>
        rw[hx]at h
        simp only[Option.bind_some]at h
        split at h
        ·rename_i hk
         cases h
         exact .is h1 (Wd.ex x n hx) h2 (Wd.is n (by simpa using hk))
        ·cases h
  ·cases h
 ·cases h
  exact .st
 ·cases h
theorem a3r: ∀ {es:List Expr} {ms:List Am},ax4 X.env.scope exs kns fa es=some ms→aH4 X D fa es (ms.map (amV isv))
 | [],ms,h=>by cases h;exact .nil
 |e::es,ms,h=>by
  unfold ax4 at h
  cases h1:amE X.env.scope exs kns fa e with
  |none=>rw[h1]at h;cases h
  |some m=>
   rw[h1]at h
   simp only[Option.bind_some]at h
   cases h2:ax4 X.env.scope exs kns fa es with
   |none=>rw[h2]at h;cases h
   |    some l=>
        rw[h2]at h
        cases h
        exact .cons (bZ2 Wd h1) (a3r h2)
end
structure Grw (a:Addr)(j:Nat)(S:List V→L2.St→Hp→Prop):Prop where
 s0: ∀acc σ H,S acc σ H→σ[0]? =some (some (.ref a))
 at_: ∀acc σ H,S acc σ H→ ∃p,σ[j]? =some (some (.ref p))∧H p=some (.lst acc)∧(∀vs,S (acc++vs) σ (upd H p (.lst (acc++vs))))∧ ∀q vs ws,H q=none→S (acc++vs) σ (upd (upd H q (.lst ws)) p (.lst (acc++vs)))
section
variable {X:Cx} {C:Nat→Addr} {exs:List (Str×Nat)} {kns:List Nat} {isv:Nat→Bool} {D a:Addr} {fa nm:Str} (Wd:a8l X C exs kns isv D) (F:Flt X D a fa) {j:Nat} (N:Slt X nm j) {S:List V→L2.St→Hp→Prop} (G:Grw a j S) {Q:L2.St→Hp→Prop} {Z:V→Hp→Prop}
include Wd F N G
theorem bZ3 (ss:List Stmt): ∀(acc:List V),acc.length+(grow X.env.scope exs kns fa nm ss).1.length<1000→HT X (grow X.env.scope exs kns fa nm ss).2 (S (acc++(grow X.env.scope exs kns fa nm ss).1.map (amV isv))) Q Z→HT X ss (S acc) Q Z:=by
 induction ss with
 |nil=>
  intro acc _ h
  simpa[grow]using h
 |cons s r ih0=>
  intro acc hl h
  unfold grow at hl h
  split at hl
  ·rename_i n p1 m ap x cp ep r' heq
   cases heq
   simp only at h
   split at hl
   ·    rename_i hc
        rw[if_pos hc]at h
        simp only[Bool.and_eq_true,beq_iff_eq]at hc
        obtain⟨rfl,hline⟩:=hc
        split at hl
        ·rename_i hm
         rw[if_pos hm]at h
         have hm':=eq_of_beq hm
         subst hm'
         split at hl
         ·rename_i v hv
          rw[hv]at h
          simp only at hl h
          obtain⟨t,p2,q2⟩:=pe_append (nm:=n) (p1:=p1) (cp:=cp) F N (bZ2 Wd hv) (by simpa using hline)
          have ih:=ih0 (acc++[amV isv v]) (by simp at hl ⊢;omega) (by simpa using h)
          refine HT.cons ⟨_,ps_expr (pos:=ep) p2 rfl,fun D σ H p f g=> ?_⟩ ih
          obtain⟨q,k1,k2,k3,_⟩:=G.at_ acc σ H p
          exact q2 σ H _ q acc (G.s0 acc σ H p) k1 k2 (by simp at hl;omega) (f σ _ (k3 _))
         ·rename_i hv
          rw[hv]at h
          simpa using h
        ·rename_i hm
         rw[if_neg hm]at h
         split at hl
         ·rename_i hm2
          rw[if_pos hm2]at h
          have hm':=eq_of_beq hm2
          subst hm'
          split at hl
          ·rename_i es lp
           simp only at h
           split at hl
           ·rename_i vs hv
            rw[hv]at h
            simp only at hl h
            obtain⟨t,p2,q2⟩:=pe_extend (nm:=n) (p1:=p1) (cp:=cp) (lp:=lp) F N (a3r Wd hv) (by simpa using hline)
            have ih:=ih0 (acc++vs.map (amV isv)) (by simp at hl ⊢;omega) (by simpa using h)
            refine HT.cons ⟨_,ps_expr (pos:=ep) p2 rfl,fun D σ H p f g=> ?_⟩ ih
            obtain⟨q,k1,k2,_,k4⟩:=G.at_ acc σ H p
            exact q2 σ H _ q acc (G.s0 acc σ H p) k1 k2 (by simp at hl ⊢;omega) fun q' hn=>f σ _ (k4 q' _ _ hn)
           ·rename_i hv
            rw[hv]at h
            simpa using h
          ·rename_i hx
           split at h
           ·exact absurd rfl (hx _ _)
           ·simpa using h
         ·rename_i hm2
          rw[if_neg hm2]at h
          simpa using h
   ·    rename_i hc
        rw[if_neg hc]at h
        simpa using h
  ·rename_i hx
   split at h
   ·    rename_i heq
        exact(hx _ _ _ _ _ _ _ _ heq).elim
   ·simpa using h
end
end Fz
namespace Fz
open PySem PySem.Spec L2 PyProof.Rows
variable [aa0] [FnT]
structure KSt (a:Addr)(H0:Hp)(k:List V)(σ:L2.St)(H:Hp):Prop where
 len:σ.length=3
 s0:σ[0]? =some (some (.ref a))
 sm:Same H0 H
 ks: ∃p,σ[1]? =some (some (.ref p))∧Fr H0 p∧H p=some (.lst k)
structure NSt (a:Addr)(H0:Hp)(k n:List V)(σ:L2.St)(H:Hp):Prop where
 len:σ.length=3
 s0:σ[0]? =some (some (.ref a))
 sm:Same H0 H
 ks: ∃p q,σ[1]? =some (some (.ref p))∧σ[2]? =some (some (.ref q))∧p≠q∧Fr H0 p∧Fr H0 q∧H p=some (.lst k)∧H q=some (.lst n)
theorem cF1 (a:Addr)(H0:Hp):Grw a 1 (KSt a H0):=⟨fun _ _ _ h=>h.s0,fun acc σ H h=>by
 obtain⟨p,h1,h2,h3⟩:=h.ks
 refine⟨p,h1,h3,fun vs=>⟨h.len,h.s0,aF2 h.sm h2 h3,p,h1,h2,upd_same⟩,fun q vs ws hn=> ?_⟩
 have hpq:p≠q:=fun e=>by rw[e,hn]at h3;cases h3
 exact⟨h.len,h.s0,aF2 (h.sm.trans (ab2 hn)) h2 (by rw[upd_ne hpq];exact h3),p,h1,h2,upd_same⟩⟩
theorem cF3 (a:Addr)(H0:Hp)(k:List V):Grw a 2 (NSt a H0 k):=⟨fun _ _ _ h=>h.s0,fun acc σ H h=>by
 obtain⟨p,q,h1,h2,hpq,f1,f2,h3,h4⟩:=h.ks
 refine⟨q,h2,h4,fun vs=>⟨h.len,h.s0,aF2 h.sm f2 h4,p,q,h1,h2,hpq,f1,f2,by rw[upd_ne hpq];exact h3,upd_same⟩,fun r vs ws hn=> ?_⟩
 have hqr:q≠r:=fun e=>by rw[e,hn]at h4;cases h4
 have hpr:p≠r:=fun e=>by rw[e,hn]at h3;cases h3
 exact⟨h.len,h.s0,aF2 (h.sm.trans (ab2 hn)) f2 (by rw[upd_ne hqr];exact h4),p,q,h1,h2,hpq,f1,f2,by rw[upd_ne hpq,upd_ne hpr];exact h3,upd_same⟩⟩
def lcB (sc : Scope)(exs:List (Str×Nat))(kns:List Nat)(fa ki na:Str):List Stmt→Option (List Am×List Am)
 |  .Assign [.Name k0 kp] (.List es lp) sp::r=>
    if k0==ki then(ax4 sc exs kns fa es).bind fun v0=>
     (match(grow sc exs kns fa ki r).2 with
     |  .If (.BoolOp .Or [.Compare (.Call (.Attribute (.Name k1 p1) m1 ap1) [.Constant (.bool true) j1 p2] [] cp1) [.NotEq] [.Constant (.int 1) j2 p3] p4,.UnaryOp .Not (.Call (.Name i1 p5) [.Name f1 p6,.Name ve p7] [] p8) p9] p10) [.Return (some (.Constant (.str z0) j3 p11)) p12] [] p13:: .Assign [.Name n0 p14] (.List es2 p15) p16::r2=>
        if k1 ==ki&&m1==("count":Str)&&(ap1.endLine==cp1.line)&&i1==("isinstance":Str)&&f1==fa&&ve==("ValueError":Str)&&glE sc ("ValueError":Str)&&n0==na then
         (ax4 sc exs kns fa es2).bind fun w0=>
            (match(grow sc exs kns fa na r2).2 with
            | [.Return (some (.Subscript (.Name n1 q1) (.Call (.Attribute (.Name k2 q2) m2 ap2) [.Constant (.bool true) j4 q3] [] cp2) q4)) q5]=>
              if n1==na&&k2==ki&&m2==("index":Str)&&(ap2.endLine==cp2.line)then some (v0++(grow sc exs kns fa ki r).1,w0++(grow sc exs kns fa na r2).1)else none
            |_=>none)
        else none
     |_=>none)
    else none
 |_=>none
section
variable {X:Cx} {C:Nat→Addr} {exs:List (Str×Nat)} {kns:List Nat} {isv:Nat→Bool} {D a:Addr} {fa ki na:Str}
theorem bZ4 (isv:Nat→Bool)(l:List Am):(l.map (amV isv)).all flatV=true:=by
 rw[List.all_map,List.all_eq_true]
 intro x _
 cases x<;>rfl
theorem cF5    (hN:  X.N.Nodup)(Wd:a8l X C exs kns isv D)(F:Flt X D a fa)(N1:Slt X ki 1)(N2:Slt X na 2)(L1:Loc X.env.scope ki)(L2':Loc X.env.scope na)(fn1:X.fn ki=true∨X.env.scope.names.lookup ki=some .local)(fn2:X.fn na=true∨X.env.scope.names.lookup na=some .local)
  (hve:X.mg "ValueError"=none) (hVE:PySem.W.kitOne X.K (.ref D) (.type "ValueError")=some true) {body:List Stmt} {ks ns:List Am} (h:lcB X.env.scope exs kns fa ki na body=some (ks,ns)) (hkl:ks.length<900) (hnl:ns.length<900)
  {n:Nat} {z:Str} (hc:(ks.map (amV isv)).countP (fun y=>eqV y (.bl true))=1) (hi1:(ks.map (amV isv))[n]? =some (.bl true)) (hi2: ∀m z',m<n→(ks.map (amV isv))[m]? =some z'→eqV z' (.bl true)=false) (hz:ns[n]? =some (.inr z)) (H0:Hp) {Q:L2.St→Hp→Prop}:
  HT X body (fun σ H=>σ.length=3∧σ[0]? =some (some (.ref a))∧H=H0) Q (fun v H'=>v= .str z∧Same H0 H'):=by
 have big:1000≤sizeLine:=by decide
 unfold lcB at h
 split at h
 ·rename_i k0  kp es lp sp r
  split at h
  ·rename_i hk0
   have:=eq_of_beq hk0
   subst this
   cases hv0:ax4 X.env.scope exs kns fa es with
   |none=>rw[hv0]at h;cases h
   |    some v0=>
        rw[hv0]at h
        simp only[Option.bind_some]at h
        split at h
        ·rename_i k1 p1 m1 ap1 j1 p2 cp1 j2 p3 p4 i1 p5 f1 p6 ve p7 p8 p9 p10 z0 j3 p11 p12 p13 n0 p14 es2 p15 p16 r2 hr1
         split at h
         ·rename_i hcnd
          simp only[Bool.and_eq_true]at hcnd
          obtain⟨⟨⟨⟨⟨⟨⟨c1,c2⟩,c3⟩,c4⟩,c5⟩,c6⟩,c7⟩,c8⟩:=hcnd
          have c1:=eq_of_beq c1
          have c2:=eq_of_beq c2
          have c4:=eq_of_beq c4
          have c5:=eq_of_beq c5
          have c6:=eq_of_beq c6
          have c8:=eq_of_beq c8
          subst c1 c2 c4 c5 c6 c8
          simp only[glE,Bool.and_eq_true,decide_eq_true_eq,Bool.not_eq_true']at c7
          cases hw0:ax4 X.env.scope exs kns f1 es2 with
          |none=>rw[hw0]at h;cases h
          |some w0   =>
           rw[hw0]at h
           simp only[Option.bind_some]at h
           split at h
           ·   rename_i n1 q1 k2 q2 m2 ap2 j4 q3 cp2 q4 q5 hr2
               split at h
               ·rename_i hcnd2
                simp only[Bool.and_eq_true]at hcnd2
                obtain⟨⟨⟨e1,e2⟩,e3⟩,e4⟩:=hcnd2
                have e1:=eq_of_beq e1
                have e2:=eq_of_beq e2
                have e3:=eq_of_beq e3
                subst e1 e2 e3
                simp only[Option.some.injEq,Prod.mk.injEq]at h
                obtain⟨h1,h2⟩:=h
                have hk:ks.map (amV isv)=v0.map (amV isv)++(grow X.env.scope exs kns f1 k2 r).1.map (amV isv):=by rw[←h1,List.map_append]
                have hn':ns.map (amV isv)=w0.map (amV isv)++(grow X.env.scope exs kns f1 n1 r2).1.map (amV isv):=by rw[←h2,List.map_append]
                have hl1:v0.length+(grow X.env.scope exs kns f1 k2 r).1.length<900:=by rw[←h1]at hkl;simpa using hkl
                have hl2:w0.length+(grow X.env.scope exs kns f1 n1 r2).1.length<900:=by rw[←h2]at hnl;simpa using hnl
                obtain⟨oe,hp,hz',hf⟩:=F.pin
                have last:HT X [.Return (some (.Subscript (.Name n1 q1) (.Call (.Attribute (.Name k2 q2) "index" ap2) [.Constant (.bool true) j4 q3] [] cp2) q4)) q5] (NSt a H0 (ks.map (amV isv)) (ns.map (amV isv))) Q (fun v H'=>v= .str z∧Same H0 H'):=by
                  refine HT.cons (Q:=Q) ⟨_,ps_ret (pe_ix (X:=X) ix_list N2.pe (pe_bm (X:=X) (T:="list") (apos:=ap2) (cpos:=cp2) PySem.F.plainAttrs_list PySem.F.slot_list_index PySem.F.type_list_index mt_index N1.pe (pa_cons pe_bl pa_nil rfl) rfl rfl (by simpa using e4) rfl rfl) (fun _ _=>rfl)),fun Dd σ H hS f gg=> ?_⟩ (HT.nil fun _ _ h=>h)
                  obtain⟨p,q,s1,s2,hpq,f1,f2,hp1,hq1⟩:=hS.ks
                  refine⟨.ref q,s2,.ref p,s1,.inl ⟨rfl,_,.of hp1⟩,p,_,.bl true,n,.bl true,rfl,rfl,.of hp1,rfl,bZ4 isv ks,hi1,rfl,hi2,?_⟩
                  refine⟨q,_,(n:Nat),.str z,rfl,rfl,.of hq1,?_,gg _ _ ⟨rfl,hS.sm⟩⟩
                  have hnn:(ns.map (amV isv))[n]? =some (.str z):=by rw[List.getElem?_map,hz];rfl
                  have hlt:=(List.getElem?_eq_some_iff.mp hnn).1
                  show(ixN _ _).bind _=_
                  have:ixN (ns.map (amV isv)).length (n:Int)=some n:=by
                     unfold ixN
                     rw[if_pos (by omega),if_pos (by omega)]
                     simp
                  rw[this]
                  exact hnn
                have mid2:HT X r2 (NSt a H0 (ks.map (amV isv)) (w0.map (amV isv))) Q (fun v H'=>v= .str z∧Same H0 H'):=by
                  refine bZ3 Wd F N2 (cF3 a H0 (ks.map (amV isv))) r2 _ (by rw[List.length_map];omega) ?_
                  rw[hr2,←hn']
                  exact last
                have asg2:HT X (.Assign [.Name n1 p14] (.List es2 p15) p16::r2) (KSt a H0 (ks.map (amV isv))) Q (fun v H'=>v= .str z∧Same H0 H'):=by
                  obtain⟨t,p2',q2'⟩:=(a3r Wd hw0).pa F
                  refine HT.cons ⟨_,ps_set (pos:=p16) (pos':=p14) hN N2.at_ L2' (pe_lst (pos:=p15) p2') rfl fn2,fun Dd σ H hS f gg=> ?_⟩ mid2
                  obtain⟨p,s1,f1,hp1⟩:=hS.ks
                  refine q2' σ H _ hS.s0 ⟨by rw[List.length_map];omega,fun q hq=>f _ _ ⟨by rw[List.length_set];exact hS.len,by rw[List.getElem?_set_ne (by decide)];exact hS.s0,hS.sm.trans (ab2 hq),p,q,by rw[List.getElem?_set_ne (by decide)];exact s1,List.getElem?_set_self (by rw[hS.len];decide),fun e=> ?_,f1,hS.sm.ex.free (.of hq),?_,upd_same⟩⟩
                  ·rw[←e,hp1]at hq;cases hq
                  ·rw[upd_ne fun e=>by rw[e,hq]at hp1;cases hp1];exact hp1
                have tst:HT X (.If (.BoolOp .Or [.Compare (.Call (.Attribute (.Name k2 p1) "count" ap1) [.Constant (.bool true) j1 p2] [] cp1) [.NotEq] [.Constant (.int 1) j2 p3] p4,.UnaryOp .Not (.Call (.Name "isinstance" p5) [.Name f1 p6,.Name "ValueError" p7] [] p8) p9] p10) [.Return (some (.Constant (.str z0) j3 p11)) p12] [] p13:: .Assign [.Name n1 p14] (.List es2 p15) p16::r2) (KSt a H0 (ks.map (amV isv))) Q (fun v H'=>v= .str z∧Same H0 H'):=by
                  refine HT.cons ⟨_,ps_if (X:=X) (pos:=p13) (pw_or (X:=X) (pos:=p10) (pt_cmpR (X:=X) (pos:=p4) op_ne (pe_bm (X:=X) (T:="list") (apos:=ap1) (cpos:=cp1) PySem.F.plainAttrs_list PySem.F.slot_list_count PySem.F.type_list_count cE9 N1.pe (pa_cons pe_bl pa_nil rfl) rfl rfl (by simpa using c3) rfl rfl) pe_int rfl)
                     (pw_or1 (pt_not (pos:=p9) (pt_val (pe_callB (X:=X) (p:=p5) (pos:=p8) (bZ0 F.exc hp hz' hf) F.gl F.mg (by decide+kernel) (pa_cons F.slot.pe (pa_cons (pe_bltn (v:= .ty "ValueError") c7.1 hve boot_ValueError rfl (by decide) c7.2) pa_nil rfl) rfl) (by decide) (by decide) rfl rfl))))).pt (pss_one (ps_ret pe_str)) pss_nil,fun Dd σ H hS f gg=> ?_⟩ asg2
                  obtain⟨p,s1,f1,hp1⟩:=hS.ks
                  refine⟨.ref p,s1,.inl ⟨rfl,_,.of hp1⟩,p,_,.bl true,rfl,rfl,.of hp1,rfl,bZ4 isv ks,?_⟩
                  rw[hc]
                  refine⟨rfl,false,rfl,?_⟩
                  dsimp only
                  rw[if_neg (by decide)]
                  refine⟨_,hS.s0,.ty "ValueError",.type "ValueError",true,rfl,fun u r=>r,hVE,true,rfl,?_⟩
                  dsimp only
                  rw[if_neg (by decide)]
                  exact f σ H hS
                have mid1:HT X r (KSt a H0 (v0.map (amV isv))) Q (fun v H'=>v= .str z∧Same H0 H'):=by
                  refine bZ3 Wd F N1 (cF1 a H0) r _ (by rw[List.length_map];omega) ?_
                  rw[hr1,←hk]
                  exact tst
                obtain⟨t,p2',q2'⟩:=(a3r Wd hv0).pa F
                refine HT.cons ⟨_,ps_set (pos:=sp) (pos':=kp) hN N1.at_ L1 (pe_lst (pos:=lp) p2') rfl fn1,fun Dd σ H hS f gg=> ?_⟩ mid1
                obtain⟨hL,s0,rfl⟩:=hS
                exact q2' σ H _ s0 ⟨by rw[List.length_map];omega,fun q hq=>f _ _ ⟨by rw[List.length_set];exact hL,by rw[List.getElem?_set_ne (by decide)];exact s0,ab2 hq,q,List.getElem?_set_self (by rw[hL];decide),.of hq,upd_same⟩⟩
               ·cases h
           ·cases h
         ·cases h
        ·cases h
  ·cases h
 ·cases h
end
end Fz
namespace Fz
open PySem PySem.Spec L2 PyProof.Rows
theorem cF7 {P:Program}{w:World}{K:Fr'}{mg:Str→Option Value}{base:Heap}{k:Nat}{x q:Str}{params:Arguments}{body:List Stmt}{scope:Scope}{kws:List (Str×V)}{f:Addr}{fd:FuncData}{N ps:List Str}
  (FD:FunD K x q params body scope [] kws f fd) (S:FnScope N ps scope) {A:Around} {outer:List Env} {s:Shared} {H:Hp} {args:Args} {us:List Value} {vs:List V} {Q:VK} {E:XK} {p:Addr×Obj}
  (hr:L2H.RoomH (k+1) A) (hpin:L2H.PinOk outer H s p) (e0:Env0 P w K mg base A outer s H) (hb:BindsTo s fd args (ps.zip us)) (r:Vals vs us) (hl:vs.length=ps.length)
  (hbody: ∀cdv,∃t,PSs (L2H.cxH C8.CX0 P w K mg base N q scope f cdv A outer s H E p) body t∧t { nx:=fun _ H'=>Q .non H',rt:=Q } (L2.start N vs) H):
  codeAny (model P w) A (.call (.ref f) args) (CR C8.CX0 outer P w H s Q E) s:=by
 obtain⟨oc,od,dV,kV,doc,pm,an,cdv,ct,osl,rfl,lk,hcd,_,_⟩:=FD.ex
 have KX:=e0.mod.kin.keeps fun b o e=>(e0.bs b o e).1
 have lim:=e0.mod.nolimit.keeps fun b o e=>(e0.bs b o e).1
 obtain⟨t,ht,hq⟩:=hbody cdv
 refine codeAny_call_function hr.depth (KX _ _ lk) rfl S.co S.gen rfl (PySem.W.codeRec_of KX hcd) (hb _ _ _ _ ?_)
 refine wpAny_newFunctionEnv_cells S.kind (fun y hy=> ?_) fun env he s1 z=> ?_
 ·rcases S.par y.1 (List.of_mem_zip (show(y.1,y.2)∈_ from hy)).1 with h|h
  ·exact .inl h
  ·exact .inr ⟨h,PySem.W.cellsFrom_some _ _ _ (.inl h)⟩
 ·subst he
  refine⟨lim.keeps z.toInCall.keep,codeAny_func (wpAny_mono (ht.run [] s1 _ H _ (L2H.inv_startH S hpin e0 hl r z) hq) (fun fl s' hs=> ?_) fun _ _ h=>h)⟩
  cases fl with
  |ret u=>
   obtain⟨v,σ',H',J,rv,q⟩:=hs
   exact⟨v,H',J.os,J.bare,J.base,J.hok,rv,q⟩
  |next=>
   obtain⟨σ',H',J,q⟩:=hs
   exact⟨.non,H',J.os,J.bare,J.base,J.hok,rfl,q⟩
  |brk=>
   obtain⟨_,_,_,q⟩:=hs
   exact q.elim
  |cont=>
   obtain⟨_,_,_,q⟩:=hs
   exact q.elim
end Fz
namespace Fz
open PySem PySem.Spec L2 PyProof.Rows
variable [aa0] [FnT]
def a3s (sc:Scope)(fa ki na:Str):Bool:=decide (sc.names.lookup fa=some .local)&&decide (sc.names.lookup ki=some .local)&&decide (sc.names.lookup na=some .local)&&decide (sc.names.lookup ("isinstance":Str)=some .globalImplicit)&&
 [fa,ki,na].all fun x=> !(x==("__debug__":Str))&& !(x==("__classdict__":Str))
structure LcD (K:Fr')(C:Nat→Addr)(kns:List Nat)(ks ns:List Am)(D:Addr)(z:Str):Prop where
 exc:ExcC K D
 ve:PySem.W.kitOne K (.ref D) (.type "ValueError")=some true
 is: ∃isv:Nat→Bool,(∀n∈kns,PySem.W.kitOne K (.ref D) (.ref (C n))=some (isv n))∧(ks.map (amV isv)).countP (fun y=>eqV y (.bl true))=1∧
  ∃n:Nat,(ks.map (amV isv))[n]? =some (.bl true)∧(∀(m:Nat) (z':V),m<n→(ks.map (amV isv))[m]? =some z'→eqV z' (.bl true)=false)∧ns[n]? =some (.inr z)
structure aM4 (K:Fr')(mg:Str→Option Value)(C:Nat→Addr)(nm:Str)(nmOf:Nat→Option Str):Prop where
 ex: ∃(f:Addr) (fd:FuncData) (params:Arguments) (body:List Stmt) (scope:Scope) (kws:List (Str×V)) (fa ki na:Str) (exs:List (Str×Nat)) (kns:List Nat) (ks ns:List Am),
  mg nm=some (.ref f)∧FunD K nm nm params body scope [] kws f fd∧FnScope [fa,ki,na] [fa] scope∧Binds K fd [fa] []∧a3s scope fa ki na=true∧lcB scope exs kns fa ki na body=some (ks,ns)∧ks.length<900∧ns.length<900∧
  (∀x n,exs.lookup x=some n→mg x=some (.ref (C n)))∧mg "isinstance"=none∧mg "ValueError"=none∧(nm==("__debug__":Str))=false∧ ∀c z,nmOf c=some z→LcD K C kns ks ns (C c) z
theorem cF9 {X:Cx}{C:Nat→Addr}{nm:Str}{nmOf:Nat→Option Str}{a:Addr}{oe:Obj}{pn:List (Addr×Obj)}{c i k:Nat}{z fa0:Str}{p p1 pos:Pos}(hN:aM4 X.K X.mg C nm nmOf)(hc:nmOf c=some z)(hz:Zc (.ref (C c)) none oe)(hf: ∃vs,oe.data= .fields vs)(hg:Gl X nm)(S:Slt X fa0 i)
  (hr:Room (k+1) X.A):
  ∃t:TE,PE (X.suite a ((a,oe)::pn)) (.Call (.Name nm p) [.Name fa0 p1] [] pos) t∧ ∀σ H (Q:VK),σ[i]? =some (some (.ref a))→(∀H',Same H H'→Q (.str z) H')→t σ H Q:=by
 obtain⟨f,fd,params,body,scope,kws,fa,ki,na,exs,kns,ks,ns,hm,F,Sg,hb,hsc,hbody,hkl,hnl,hex,hi,hv,hdb,hL⟩:=hN.ex
 have L:=hL c z hc
 obtain⟨isv,his,hcnt,n,hn1,hn2,hn3⟩:=L.is
 refine⟨fun σ H Q=>σ[i]? =some (some (.ref a))∧ ∀H',Same H H'→Q (.str z) H',⟨fun pins s σ H Q I h=> ?_⟩,fun σ H Q h1 h2=>⟨h1,h2⟩⟩
 obtain⟨hs,hq⟩:=h
 refine wpAny_Call_Name_kw (ld_glob (X:=X.suite a ((a,oe)::pn)) I hg hm ?_ hdb)
 refine PySem.W.callWith_K (h₀:=X.base) I.ok.mod.kin F.kp (thn ((pa_cons (X:=X.suite a ((a,oe)::pn)) (pe_var (X:=X.suite a ((a,oe)::pn)) S.at_ S.vis S.d1 S.d2) pa_nil rfl).run pos pins s σ H (fun ws H2=>ws=[.ref a]∧H2=H) I ⟨.ref a,hs,rfl,rfl⟩) fun us s2 ⟨ws,H2,I2,r2,q2⟩=>⟨I2.kIn,?_⟩) (by rfl) (by rfl)
 obtain⟨rfl,rfl⟩:=q2
 have P1:=I2.pin (a,oe) (List.mem_append_left _ List.mem_cons_self)
 have hpin:L2H.PinOk X.stack H2 s2 (a,oe):=⟨P1.1,P1.2.1,fun hm'=>(List.mem_cons.mp (I2.stkSub a hm')).elim P1.2.2.1 P1.2.2.2.1,P1.2.2.2.2⟩
 have hl:us.length=[fa].length:=by rw[←r2.length];rfl
 have b:=hb s2 us I2.kIn (by rw[List.append_nil];exact hl)
 rw[List.append_nil]at b
 have hr':L2H.RoomH (k+1) (X.suite a ((a,oe)::pn)).A:=⟨hr.dp,hr.un⟩
 have run:=cF7 (E:=C8.E0) (Q:=fun v H'=>v= .str z∧Same H2 H') F Sg hr' hpin I2.env0 b r2 rfl fun cdv=>by
  simp only[a3s,Bool.and_eq_true,decide_eq_true_eq,List.all_cons,List.all_nil,Bool.and_true,Bool.not_eq_true']at hsc
  obtain⟨⟨⟨⟨l1,l2⟩,l3⟩,l4⟩,⟨d1,d2⟩,⟨d3,d4⟩,d5,d6⟩:=hsc
  obtain⟨t,h1,h2⟩:=cF5 (X:=L2H.cxH C8.CX0 X.prog X.w X.K X.mg X.base [fa,ki,na] nm scope f cdv (X.suite a ((a,oe)::pn)).A X.stack s2 H2 C8.E0 (a,oe)) (C:=C) (exs:=exs) (kns:=kns) (isv:=isv) (D:=C c) (a:=a) (fa:=fa) (ki:=ki) (na:=na)
   Sg.nd ⟨hex,his⟩ ⟨L.exc,⟨oe,List.mem_singleton.mpr rfl,hz,hf⟩,⟨rfl,.inl l1,d1,d2⟩,l4,hi⟩ ⟨rfl,.inl l2,d3,d4⟩ ⟨rfl,.inl l3,d5,d6⟩ (.inl l2) (.inl l3) (.inr l2) (.inr l3) hv L.ve hbody hkl hnl hcnt hn1 hn2 hn3 H2 (Q:=fun _ _=>False)
  exact⟨t,h1,h2 _ _ _ ⟨rfl,rfl,rfl⟩ (fun _ _ q=>q.elim) fun v H' q=>q⟩
 refine wpAny_call (codeAny_mono run fun res s3 hc3=> ?_)
 cases res with
 |error e=>exact(show False from hc3).elim
 |ok fl=>
  cases fl with
  |ret u=>
   obtain⟨v,H3,I3,rv,rfl,e3⟩:=I2.after hc3
   exact⟨_,H3,I3,rv,hq H3 e3⟩
  |next=>exact False.elim hc3
  |brk=>exact False.elim hc3
  |cont=>exact False.elim hc3
end Fz
namespace Fz
open PySem PySem.Spec L2 LamX PyProof.Rows
variable [aa0] [FnT]
section
variable {X:Cx} {C:Nat→Addr} {pins:List (Addr×Obj)} {σ:L2.St} {H:Hp} {s:Shared}
theorem cG0 {CXg:CXT}{Eg:XK}{Ng:List Str}{qg:Str}{sg:Scope}{g:Addr}{cdg:Value}{lv i:Nat}{a:Str}{pn:List (Addr×Obj)}{xe:Value→Shared→Prop}{W:WX}{ts:List Tnk}{p1 p2:Pos}(I:Inv X pins σ H s)(hok: ∀t∈ts,t.Ok X C lv)
  (tk:Takes ((cxOf CXg X.prog X.w X.K X.mg X.base Ng qg sg g cdg X.A X.stack s H Eg).tr pn xe) W) (hr:Room (lv+1) (X.A.deeper (envOfC qg sg s.heap.objs.size g cdg))) (S:Slt ((cxOf CXg X.prog X.w X.K X.mg X.base Ng qg sg g cdg X.A X.stack s H Eg).tr pn xe) a i):
  PE ((cxOf CXg X.prog X.w X.K X.mg X.base Ng qg sg g cdg X.A X.stack s H Eg).tr pn xe) (.Call (.Name a p1) [] [] p2)
   (fun σZ HZ Q=> ∃t∈ts,σZ[i]? =some (some (.ref t.f))∧t.at X HZ∧tR X.K C (WE' fun cls d H'=>W cls d σZ H') (rM X.K true) t.r σ HZ Q):=by
 refine⟨fun pinsZ sZ σZ HZ Q IZ h=> ?_⟩
 obtain⟨t,ht,hs,hat,htr⟩:=h
 have ok:=hok t ht
 refine wpAny_Call_Name_kw (thn ((pe_var (pos:=p1) S.at_ S.vis S.d1 S.d2).run pinsZ sZ σZ HZ (fun v H1=>v= .ref t.f∧H1=HZ) IZ ⟨.ref t.f,hs,rfl,rfl⟩) fun u s1 ⟨v,H1,I1,r1,q1⟩=> ?_)
 obtain⟨rfl,rfl⟩:=q1
 cases r1
 refine PySem.W.callWith_F0 ⟨_,_,_,_,(I1.hok t.f _ hat.1).1⟩ ?_
 have rc:=cw0 (E:=fun cls d H'=>W cls d σZ H') (Q:=Q) (tb:=tR X.K C (WE' fun cls d H'=>W cls d σZ H') (rM X.K true) t.r) I ok.L ok.p I1.env0 I1.base hr hat.1 hat.2 (fun hr2=>ok.b _ _ s1 H1 _ hr2) htr
 refine wpAny_call (codeAny_mono rc fun res s' hq=> ?_)
 cases res with
 |error e=>exact passAt tk σZ pinsZ H1 s1 e s' I1 hq
 |ok fl=>
  cases fl with
  |ret u=>exact I1.after hq
  |next=>exact False.elim hq
  |brk=>exact False.elim hq
  |cont=>exact False.elim hq
end
def laB (cn:Str)(ee:Str):List Stmt→Option (List Str)
 |  [.Assign [.Name f0 _] (.List [] _) _,.For (.Name c0 _) (.Name l0 _) [.Try [.Expr (.Call (.Name c1 _) [] [] _) _] [.ExceptHandler (some (.Name ee1 _)) (some e0) [.Expr (.Call (.Attribute (.Name f1 _) ap apos) [.Call (.Name cn1 _) [.Name e1 _] [] _] [] cpos) _] _] [] [] _] [] _,
     .Return (some (.Compare (.Name f2 _) [.Eq] [.BinOp (.List [.Name n0 _] _) .Mult (.Call (.Name ln _) [.Name l1 _] [] _) _] _)) _]=>
    if f1==f0&&f2==f0&&c1==c0&&l1==l0&&e1==e0&&ee1==ee&&cn1==cn&&ap==("append":Str)&&ln==("len":Str)&&(apos.endLine==cpos.line)then some [l0,n0,f0,c0,e0]else none
 |_=>none
def aW3 (sc:Scope)(N:List Str)(cn ee:Str):Bool:=(N.all fun x=>decide (sc.names.lookup x=some .local)&& !(x==("__debug__":Str))&& !(x==("__classdict__":Str)))&&decide (sc.names.lookup cn=some .globalImplicit)&&decide (sc.names.lookup ee=some .globalImplicit)&& !(ee==("__debug__":Str))&&
 decide (sc.names.lookup ("len":Str)=some .globalImplicit)
structure at8 (X:Cx)(C:Nat→Addr)(x:Str)(nmOf:Nat→Option Str):Prop where
 ex: ∃(g:Addr) (fd:FuncData) (params:Arguments) (body:List Stmt) (scope:Scope) (kws:List (Str×V)) (l0 n0 f0 c0 e0 cn ee:Str) (ce:Nat),
  X.mg x=some (.ref g)∧FunD X.K x x params body scope [] kws g fd∧L2.Binds X.K fd [l0,n0] []∧FnScope [l0,n0,f0,c0,e0] [l0,n0] scope∧laB cn ee body=some [l0,n0,f0,c0,e0]∧aW3 scope [l0,n0,f0,c0,e0] cn ee=true∧X.mg "len"=none∧
  X.mg ee=some (.ref (C ce))∧aM4 X.K X.mg C cn nmOf∧(∀c z,nmOf c=some z→PySem.W.exmOne X.K (.ref (C c)) (.ref (C ce))=some true)∧(x==("__debug__":Str))=false
end Fz
namespace Fz
open PySem PySem.Spec L2 LamX PyProof.Rows
variable [aa0] [FnT]
structure ASt (Hb:Hp)(Dd p:Addr)(ts:List Tnk)(z:Str)(k:Nat)(σ:L2.St)(H:Hp):Prop where
 len:σ.length=5
 s0:σ[0]? =some (some (.ref Dd))
 s1:σ[1]? =some (some (.str z))
 s2:σ[2]? =some (some (.ref p))
 fr:Fr Hb p
 sm:Same Hb H
 hp:H p=some (.lst (List.replicate k (.str z)))
 hD:H Dd=some (.lst (ts.map fun t=>V.ref t.f))
theorem a8n {K:Fr'}{H:Hp}{z:Str}(h1:PyData.strOk z=true)(h2:z.length≤sizeLine): ∀n,aa1 K H (List.replicate n (.str z)) (List.replicate n (.str z))
 |0=> .nil
 |n+1=> .cons (.str z h1 h2) (a8n h1 h2 n)
theorem cG1 (z:Str)(n:Nat):o2 .eq (.list (List.replicate n (.str z))) (.list (List.replicate n (.str z)))= .ok (.bool true):=by
 have hd: ∀n,PyData.depthAll (List.replicate n (PyData.str z))≤1:=fun n=>by
  induction n with
  |zero=>simp[PyData.depthAll]
  |succ n ih=>rw[List.replicate_succ];simp[PyData.depthAll,PyData.depth];omega
 have hn: ∀n,ad7 (List.replicate n (PyData.str z))=true:=fun n=>by
  induction n with
  |zero=>rfl
  |succ n ih=>rw[List.replicate_succ];simp[ad7,noD,ih]
 have he: ∀n,PyData.eqvAll (List.replicate n (PyData.str z)) (List.replicate n (PyData.str z))=true:=fun n=>by
  induction n with
  |zero=>simp[PyData.eqvAll]
  |succ n ih=>rw[List.replicate_succ];simp[PyData.eqvAll,PyData.eqv,ih]
 have hc:ac5 (.list (List.replicate n (.str z))) (.list (List.replicate n (.str z)))=true:=by
  have:=hd n
  simp[ac5,noD,hn,PyData.depth]
  omega
 show(if ac5 (.list (List.replicate n (.str z))) (.list (List.replicate n (.str z)))=true then R.ok (PyData.bool (PyData.eqv (.list (List.replicate n (.str z))) (.list (List.replicate n (.str z)))))else R.no)=_
 rw[if_pos hc]
 congr 2
 show PyData.eqvAll _ _=true
 exact he n
section
variable {X:Cx} {C:Nat→Addr} {pins:List (Addr×Obj)} {σ:L2.St} {H:Hp} {s:Shared}
theorem cG2 {x:Str}{scope:Scope}{g:Addr}{cdv:Value}{lv:Nat}{body:List Stmt}{l0 n0 f0 c0 e0 cn ee:Str}{ce:Nat}{ts:List Tnk}{nmOf:Nat→Option Str}{τ:Sd}{O:List Addr}{Dd:Addr}{z:Str}(I:Inv X pins σ H s)(hok: ∀t∈ts,t.Ok X C lv)(Sg:FnScope [l0,n0,f0,c0,e0] [l0,n0] scope)
  (hr:Room (lv+1) (X.A.deeper (envOfC x scope s.heap.objs.size g cdv))) (hb:laB cn ee body=some [l0,n0,f0,c0,e0]) (hsc:aW3 scope [l0,n0,f0,c0,e0] cn ee=true) (hlen:X.mg "len"=none) (hee:X.mg ee=some (.ref (C ce))) (hN:aM4 X.K X.mg C cn nmOf)
  (hx: ∀c z,nmOf c=some z→PySem.W.exmOne X.K (.ref (C c)) (.ref (C ce))=some true) (rs:RS X.K O H σ τ) (hD:H Dd=some (.lst (ts.map fun t=>V.ref t.f))) (few:ts.length<900) (hat: ∀t∈ts,t.at X H) (hv: ∀t∈ts,∃c,t.r (ah5 τ)= .ex c∧nmOf c=some z)
  (hz1:PyData.strOk z=true) (hz2:z.length≤sizeLine) {Q:VK} (hq: ∀H',Same H H'→Q (.bl true) H'):
  ∃t,PSs (cxOf C8.CX0 X.prog X.w X.K X.mg X.base [l0,n0,f0,c0,e0] x scope g cdv X.A X.stack s H C8.E0) body t∧t { nx:=fun _ H'=>Q .non H',rt:=Q } (L2.start [l0,n0,f0,c0,e0] [.ref Dd,.str z]) H:=by
 have big:1000≤sizeLine:=by decide
 let Z:=(cxOf C8.CX0 X.prog X.w X.K X.mg X.base [l0,n0,f0,c0,e0] x scope g cdv X.A X.stack s H C8.E0).nox
 simp only[aW3,Bool.and_eq_true,decide_eq_true_eq,List.all_cons,List.all_nil,Bool.and_true,Bool.not_eq_true']at hsc
 obtain⟨⟨⟨⟨⟨⟨⟨a1,a2⟩,a3⟩,⟨⟨b1,b2⟩,b3⟩,⟨⟨c1,c2⟩,c3⟩,⟨⟨d1,d2⟩,d3⟩,⟨⟨e1,e2⟩,e3⟩⟩,g1⟩,g2⟩,g3⟩,g4⟩:=hsc
 have S0:Slt Z l0 0:=⟨rfl,.inl a1,a2,a3⟩
 have S1:Slt Z n0 1:=⟨rfl,.inl b1,b2,b3⟩
 have S2:Slt Z f0 2:=⟨rfl,.inl c1,c2,c3⟩
 unfold laB at hb
 split at hb
 ·rename_i f0' q1 q2 q3 c0' q4 l0' q5 c1' q6 q7 q8 ee1 q9 e0' f1 q10 ap apos cn1 q11 e1' q12 q13 cpos q14 q15 q16 q17 f2 q18 n0' q19 q20 ln q21 l1 q22 q23 q24 q25 q26
  split at hb
  ·rename_i hc
   simp only[Bool.and_eq_true]at hc
   obtain⟨⟨⟨⟨⟨⟨⟨⟨⟨k1,k2⟩,k3⟩,k4⟩,k5⟩,k6⟩,k7⟩,k8⟩,k9⟩,k10⟩:=hc
   have k1:=eq_of_beq k1
   have k2:=eq_of_beq k2
   have k3:=eq_of_beq k3
   have k4:=eq_of_beq k4
   have k5:=eq_of_beq k5
   have k6:=eq_of_beq k6
   have k7:=eq_of_beq k7
   have k8:=eq_of_beq k8
   have k9:=eq_of_beq k9
   simp only[Option.some.injEq,List.cons.injEq,and_true]at hb
   obtain⟨i1,i2,i3,i4,i5⟩:=hb
   subst k1 k3 k4 k5 k6 k7 k8 k9
   subst i1 i2 i3 i4 i5
   subst k2
   have nd:=Sg.nd
   have hu:Z.A.units+64<cLine:=by have:=hr.un;show(X.A.deeper _).units+64<cLine;omega
   have suite: ∀(a:Addr) (oe:Obj) (cls:Value) (d:Option Addr) (pn:List (Addr×Obj)),Zc cls d oe→(∃vs,oe.data= .fields vs)→
         PSs (Z.suite a ((a,oe)::pn)) [.Expr (.Call (.Attribute (.Name f2 q10) "append" apos) [.Call (.Name cn1 q11) [.Name e1' q12] [] q13] [] cpos) q14]
          (fun D σ H=> ∃c z' p acc,cls= .ref (C c)∧d=none∧nmOf c=some z'∧σ[4]? =some (some (.ref a))∧σ[2]? =some (some (.ref p))∧H p=some (.lst acc)∧acc.length<1000∧ ∀H1,Same H H1→D.nx σ (upd H1 p (.lst (acc++[.str z'])))):=fun a oe cls d pn hz hf=>by
        refine⟨fun pinsZ sZ σZ HZ D IZ h=> ?_⟩
        obtain⟨c,z',p,acc,rfl,rfl,hc,h4,h2,hp,hl,hq'⟩:=h
        obtain⟨t,p1,p2⟩:=cF9 (X:=Z) (a:=a) (oe:=oe) (pn:=pn) (k:=lv) (p:=q11) (p1:=q12) (pos:=q13) hN hc hz hf g1 (⟨rfl,.inl e1,e2,e3⟩:Slt Z e1' 4) hr
        have S2':Slt (Z.suite a ((a,oe)::pn)) f2 2:=⟨rfl,.inl c1,c2,c3⟩
        have st:=ps_expr (X:=Z.suite a ((a,oe)::pn)) (pos:=q14) (pe_bm (X:=Z.suite a ((a,oe)::pn)) (apos:=apos) (cpos:=cpos) PySem.F.plainAttrs_list PySem.F.slot_list_append PySem.F.type_list_append mt_append (S2'.pe (p:=q10)) (pa_cons p1 pa_nil rfl) rfl rfl (by simpa using k10) rfl rfl) rfl
        refine(pss_one st).run pinsZ sZ σZ HZ D IZ ⟨.ref p,h2,.inl ⟨rfl,_,.of hp⟩,p2 σZ HZ _ h4 fun H1 e=>⟨p,acc,.str z',rfl,rfl,e.lst hp,by omega,hq' H1 e⟩⟩
   have nmE:Names Z ee1 (.ref (C ce)):=⟨g2,g3,.inl hee⟩
   have tryS:=ps_try_as (X:=Z) (pos:=q16) (pos':=q15) (np:=q9) (i:=4) (n:=e1') (ts:=fun a cls d D σ H=> ∃c z' p acc,cls= .ref (C c)∧d=none∧nmOf c=some z'∧σ[4]? =some (some (.ref a))∧σ[2]? =some (some (.ref p))∧H p=some (.lst acc)∧acc.length<1000∧ ∀H1,Same H H1→D.nx σ (upd H1 p (.lst (acc++[.str z']))))
        (tb:=fun(W:WX) (D:Ends) (σZ:L2.St) (HZ:Hp)=> ∃t∈ts,σZ[3]? =some (some (V.ref t.f))∧t.at X HZ∧tR X.K C (WE' fun cls d H'=>W cls d σZ H') (rM X.K true) t.r σ HZ fun _ H'=>D.nx σZ H') rfl rfl nd rfl e1 nmE L2.takes0 (fun W pn xe tk _=>⟨fun pinsZ sZ σZ HZ D IZ h=>(pss_one (ps_expr (pos:=q8) (cG0 (CXg:=C8.CX0) (Eg:=C8.E0) (Ng:=[l1,n0',f2,c1',e1']) (qg:=x) (sg:=scope) (g:=g) (cdg:=cdv) (i:=3) (p1:=q6) (p2:=q7) I hok tk hr ⟨rfl,.inl d1,d2,d3⟩) rfl)).run pinsZ sZ σZ HZ D IZ h⟩) suite
   obtain⟨tT,tryP,tryQ⟩: ∃tT:TS,PS Z _ tT∧ ∀(D:Ends) (σZ:L2.St) (HZ:Hp),(∃t∈ts,σZ[3]? =some (some (V.ref t.f))∧t.at X HZ∧tR X.K C (WE' fun cls d H'=>wAs Z.K (.ref (C ce)) 4 (fun a cls d D σ H=> ∃c z' p acc,cls= .ref (C c)∧d=none∧nmOf c=some z'∧σ[4]? =some (some (.ref a))∧σ[2]? =some (some (.ref p))∧H p=some (.lst acc)∧acc.length<1000∧ ∀H1,Same H H1→D.nx σ (upd H1 p (.lst (acc++[.str z'])))) (fun _ _ _ _=>False) D cls d σZ H') (rM X.K true) t.r σ HZ fun _ H'=>D.nx σZ H')→tT D σZ HZ:=⟨_,tryS,fun D σZ HZ h=>h⟩
   have loop:=ps_for (X:=Z) (pos:=q17) PassesOwn.never rfl (pi_list (S0.pe (p:=q5))) (pg_name (X:=Z) (pos:=q4) (i:=3) (x:=c1') nd rfl (.inl d1) (.inl rfl)) (pss_one tryP) (fun _=>rfl)
   have st0:=ps_set (X:=Z) (pos:=q3) (pos':=q1) nd S2.at_ (.inl c1) (pe_lst (X:=Z) (pos:=q2) pa_nil) rfl (.inl rfl)
   have rt:=ps_ret (X:=Z) (pos:=q26) (pe_cmpR (X:=Z) (pos:=q25) (bC5 hu) (S2.pe (p:=q18)) (pe_op (X:=Z) (pos:=q24) op_rep (pe_lst (X:=Z) (pos:=q20) (pa_cons (S1.pe (p:=q19)) pa_nil rfl)) (pe_callB (X:=Z) (p:=q21) (pos:=q23) call_len g4 hlen (by decide+kernel) (pa_cons (S0.pe (p:=q22)) pa_nil rfl) (by decide) (by decide) rfl rfl)) rfl)
   refine⟨_,PSs.nox (pss_cons st0 (pss_cons loop (pss_one rt))),?_⟩
   refine⟨Nat.zero_le _,fun p hn=> ?_⟩
   have hDp:Dd≠p:=fun e=>by rw[e,hn]at hD;cases hD
   refine⟨.ref Dd,rfl,Dd,rfl,⟨_,.of (by rw[upd_ne hDp];exact hD)⟩,?_⟩
   refine for_it (walk_list (K:=X.K) (a:=Dd) (xs:=ts.map fun t=>V.ref t.f)) (fun i σ' H'=>ASt H Dd p ts z i σ' H') ?_ (fun i σ' H' _ h=> .of h.hD) ?_ ?_
   ·exact⟨rfl,rfl,rfl,rfl,.of hn,ab2 hn,upd_same,by rw[upd_ne hDp];exact hD⟩
   ·    rintro i x σ1 H2 H3 hi hA ⟨rfl,hx'⟩
        rw[List.length_map]at hi
        rw[List.getElem?_map,List.getElem?_eq_getElem hi]at hx'
        cases hx'
        have ht:ts[i]∈ts:=List.getElem_mem hi
        obtain⟨c,hvc,hnm⟩:=hv _ ht
        refine tryQ _ _ _ ⟨ts[i],ht,List.getElem?_set_self (by rw[hA.len];decide),(hat _ ht).mono hA.sm.ex,[],Fz.ah5 τ,(rs.mono hA.sm).ah5,?_⟩
        rw[hvc]
        intro H4 off
        have e4:Same H3 H4:=⟨by have:=off.ex;rw[an8]at this;exact this,off.tab⟩
        refine⟨true,hx c z hnm,fun _ a ha=>⟨c,z,p,List.replicate i (.str z),rfl,rfl,hnm,List.getElem?_set_self (by rw[List.length_set,hA.len];decide),by rw[List.getElem?_set_ne (by decide),List.getElem?_set_ne (by decide)];exact hA.s2,e4.lst hA.hp,by rw[List.length_replicate];omega,fun H1 e=> ?_⟩,fun w=>by cases w⟩
        have e5:=e4.trans e
        refine⟨by simp[hA.len],?_,?_,?_,hA.fr,aF2 (hA.sm.trans e5) hA.fr (e5.lst hA.hp),by rw[upd_same,List.replicate_succ'],?_⟩
        ·rw[List.getElem?_set_ne (by decide),List.getElem?_set_ne (by decide),List.getElem?_set_ne (by decide)];exact hA.s0
        ·rw[List.getElem?_set_ne (by decide),List.getElem?_set_ne (by decide),List.getElem?_set_ne (by decide)];exact hA.s1
        ·rw[List.getElem?_set_ne (by decide),List.getElem?_set_ne (by decide),List.getElem?_set_ne (by decide)];exact hA.s2
        ·rw[upd_ne hDp];exact e5.lst hA.hD
   ·    intro σ1 H1 hA
        rw[List.length_map]at hA
        refine⟨.ref p,hA.s2,.str z,hA.s1,by show 1≤sizeLine;omega,fun q hq1=> ?_⟩
        have hDq:Dd≠q:=fun e=>by have:=hA.hD;rw[e,hq1]at this;cases this
        have hpq:p≠q:=fun e=>by have:=hA.hp;rw[e,hq1]at this;cases this
        refine⟨.ref Dd,hA.s0,.ref Dd,ts.length,rfl,.inl ⟨_,.of (by rw[upd_ne hDq];exact hA.hD),by rw[List.length_map]⟩,?_⟩
        refine⟨q,(ts.length:Int),[.str z],rfl,rfl,upd_same,by omega,by omega,by simp;omega,fun q2 hq2=> ?_⟩
        have hqq:q≠q2:=fun e=>by rw[←e,upd_same]at hq2;cases hq2
        have hpq2:p≠q2:=fun e=>by rw[←e,upd_ne hpq,hA.hp]at hq2;cases hq2
        have hfl:(List.replicate ((ts.length:Int).toNat) [V.str z]).flatten=List.replicate ts.length (.str z):=by
         rw[Int.toNat_natCast]
         generalize ts.length=m
         induction m with
         |zero=>rfl
         |succ m ih=>rw[List.replicate_succ,List.replicate_succ,List.flatten_cons,ih];rfl
        rw[hfl]
        have sm2:Same H (upd (upd H1 q (.lst [.str z])) q2 (.lst (List.replicate ts.length (.str z)))):=(hA.sm.trans (ab2 hq1)).trans (ab2 hq2)
        refine⟨[],_,_,_,fun a ha=>(by cases ha),.inl (.lst (.of (by rw[an8,upd_ne hpq2,upd_ne hpq];exact hA.hp)) (a8n hz1 hz2 _) (by rw[List.length_replicate];omega)),.inl (.lst (.of (by rw[an8];exact upd_same)) (a8n hz1 hz2 _) (by rw[List.length_replicate];omega)),cG1 z ts.length,fun v H' e rp=> ?_⟩
        cases rp
        exact hq H' (sm2.trans e)
  ·cases hb
 ·cases hb
end
end Fz
namespace Fz
open PySem PySem.Spec L2 LamX PyProof.Rows
variable [aa0] [FnT]
structure aM8 (X:Cx):Prop where
 ex: ∃c P:Addr,TabB X.base X.mg c P∧X.env.code= .ref c∧(P,X.env.qual++"<lambda>")∈aa0.T∧ ∀p∈aa0.T,p.1=P→p.2=X.env.qual++"<lambda>"
section
variable {X:Cx} {C:Nat→Addr} {W:WX} {lv:Nat}
theorem bZ6 {params:Arguments}{body:Expr}{scope:Scope}{r:Sd→R D}{pos:Pos}(T:aM8 X)(L:LamS X.env.scope scope)(hp:as9 params=true):PE X (.Lambda params body scope pos) (tLm X params body scope r):=by
 obtain⟨c,P,TB,hcode,hT,hu⟩:=T.ex
 have hpar:params=⟨[],[],none,[],[],none,[]⟩:=by
  unfold as9 at hp
  split at hp
  ·rfl
  ·cases hp
 subst hpar
 exact⟨fun pins s σ H Q I h=>cm3 I TB hcode hT hu h.1 rfl (L.has I.ok) fun f c' pm ctv H1 s' I1 x1 t1 a b=>⟨.ref f,H1,I1,rfl,h.2 f c' pm ctv H1 ⟨x1,fun _=>t1⟩ ⟨a,b⟩⟩⟩
def bZ9 (X:Cx)(C:Nat→Addr)(nmOf:Nat→Option Str)(lv i:Nat)(z:Str):TE:=fun σ H Q=> ∃(O:List Addr) (τ:Sd) (Dd:Addr) (ts:List Tnk),RS X.K O H σ τ∧σ[i]? =some (some (.ref Dd))∧H Dd=some (.lst (ts.map fun t=>V.ref t.f))∧ts.length<900∧
 (∀t∈ts,t.at X H)∧(∀t∈ts,t.Ok X C lv)∧(∀t∈ts,∃c,t.r (ah5 τ)= .ex c∧nmOf c=some z)∧ ∀H',Same H H'→Q (.bl true) H'
theorem b0b {x y:Str}{z:Str}{nmOf:Nat→Option Str}{i j:Nat}{p p1 p2 pos:Pos}(T:at8 X C x nmOf)(hg:Gl X x)(S:Slt X y i)(hr:Room (lv+2) X.A)(hz1:PyData.strOk z=true)(hz2:z.length≤sizeLine):
  PE X (.Call (.Name x p) [.Name y p1,.Constant (.str z) j p2] [] pos) (bZ9 X C nmOf lv i z):=by
 refine⟨fun pins s σ H Q I h=> ?_⟩
 obtain⟨O,τ,Dd,ts,rs,slot,hD,few,hat,hok,hv,hq⟩:=h
 obtain⟨g,fd,params,body,scope,kws,l0,n0,f0,c0,e0,cn,ee,ce,hm,F,hb,Sg,hbody,hsc,hlen,hee,hN,hx,hdb⟩:=T.ex
 refine wpAny_Call_Name_kw (ld_glob I hg hm ?_ hdb)
 refine PySem.W.callWith_K (h₀:=X.base) I.ok.mod.kin F.kp (thn ((pa_cons (S.pe (p:=p1)) (pa_cons (pe_str (x:=z) (j:=j) (pos:=p2)) pa_nil rfl) rfl).run pos pins s σ H (fun ws H2=>ws=[.ref Dd,.str z]∧H2=H) I ⟨.ref Dd,slot,rfl,rfl⟩) fun us s2 ⟨ws,H2,I2,r2,q2⟩=>⟨I2.kIn,?_⟩) (by rfl) (by rfl)
 obtain⟨rfl,rfl⟩:=q2
 have hl:us.length=[l0,n0].length:=by rw[←r2.length];rfl
 have b:=hb s2 us I2.kIn (by rw[List.append_nil];exact hl)
 rw[List.append_nil]at b
 obtain⟨oc,od,dV,kV,doc,pm,an,cdv,ct,osl,rfl,lk,hcd,_,_⟩:=F.ex
 have run:=run_ofS (CX:=C8.CX0) (E:=C8.E0) (Q:=fun v H'=>v= .bl true∧Same H2 H') (N:=[l0,n0,f0,c0,e0]) (ps:=[l0,n0]) (us:=us) (vs:=[.ref Dd,.str z]) lk hcd Sg hr I2.env0 b r2 rfl fun hr'=>
  cG2 (x:=x) (scope:=scope) (g:=g) (cdv:=cdv) (z:=z) (Q:=fun v H'=>v=V.bl true∧Same H2 H') I2 hok Sg hr' hbody hsc hlen hee hN hx rs hD few hat hv hz1 hz2 (fun H' e=>⟨rfl,e⟩)
 refine wpAny_call (codeAny_mono run fun res s3 hc3=> ?_)
 cases res with
 |error e=>exact(show False from hc3).elim
 |ok fl=>
  cases fl with
  |ret u=>
   obtain⟨v,H3,I3,rv,rfl,e3⟩:=I2.after hc3
   exact⟨_,H3,I3,rv,hq H3 e3⟩
  |next=>exact False.elim hc3
  |brk=>exact False.elim hc3
  |cont=>exact False.elim hc3
inductive aA3 (X:Cx)(C:Nat→Addr)(lv:Nat)(nm:Str):List Stmt→List (Sd→R D)→List Stmt→Prop
 |nil {rest:List Stmt}:aA3 X C lv nm rest [] rest
 |cons {pr:Arguments} {b:Expr} {sc:Scope} {r:Sd→R D} {l1 q4 q5 q6 q7:Pos} {ss rest:List Stmt} {rs:List (Sd→R D)}:LamS X.env.scope sc→as9 pr=true→(q5.endLine==q6.line)=true→
  (∀(f c':Addr) (A:Around) (outer:List Env) (s:Shared) (H:Hp) (E:XK),Room lv (A.deeper (lamEnv X sc s.heap.objs.size f c'))→PEx (lamCx X A outer s H E sc f c') C (WE' E) true b r)→aA3 X C lv nm ss rs rest→
  aA3 X C lv nm (.Expr (.Call (.Attribute (.Name nm q4) "append" q5) [.Lambda pr b sc l1] [] q6) q7::ss) (r::rs) rest
structure CSt (X:Cx)(C:Nat→Addr)(lv i:Nat)(H0:Hp)(rs:List (Sd→R D))(σ0:L2.St)(σ:L2.St)(H:Hp):Prop where
 sm:Same H0 H
 st: ∃(Dd:Addr) (ts:List Tnk),σ=σ0.set i (some (.ref Dd))∧Fr H0 Dd∧H Dd=some (.lst (ts.map fun t=>V.ref t.f))∧(∀t∈ts,t.at X H)∧(∀t∈ts,t.Ok X C lv)∧ts.map (·.r)=rs
theorem cG3 {nm:Str}{i:Nat}(T:aM8 X)(S:Slt X nm i){u:TS}{ss rest:List Stmt}{rs:List (Sd→R D)}(h:aA3 X C lv nm ss rs rest)(hu:PSs X rest u):
   ∃t,PSs X ss t∧ ∀(H0:Hp) (σ0:L2.St) (acc:List (Sd→R D)) (Dn:Ends) (σ:L2.St) (H:Hp),i<σ0.length→Tabs aa0.T H0→acc.length+rs.length<900→CSt X C lv i H0 acc σ0 σ H→(∀σ' H',CSt X C lv i H0 (acc++rs) σ0 σ' H'→u Dn σ' H')→t Dn σ H:=by
 have big:1000≤sizeLine:=by decide
 induction h with
 |nil=>exact⟨_,hu,fun H0 σ0 acc Dn σ H _ _ _ hS f=>f σ H (by simpa using hS)⟩
 | @cons pr b sc r l1 q4 q5 q6 q7 ss rest rs L hp hl hb _ ih=>
   obtain⟨t2,p2,k2⟩:=ih hu
   refine⟨_,pss_cons (ps_expr (pos:=q7) (pe_bm (X:=X) (apos:=q5) (cpos:=q6) PySem.F.plainAttrs_list PySem.F.slot_list_append PySem.F.type_list_append mt_append (S.pe (p:=q4)) (pa_cons (bZ6 (r:=r) (pos:=l1) T L hp) pa_nil rfl) rfl rfl hl rfl rfl) rfl) p2,fun H0 σ0 acc Dn σ H hi tab hlen hS f=> ?_⟩
   obtain⟨Dd,ts,rfl,hfr,hD,hat,hok,hrs⟩:=hS.st
   have slot:(σ0.set i (some (V.ref Dd)))[i]? =some (some (V.ref Dd)):=List.getElem?_set_self hi
   refine⟨.ref Dd,slot,.inl ⟨rfl,_,.of hD⟩,hS.sm.tab tab,fun f1 c1 pm ctv H1 e1 a1=>⟨Dd,_,.ref f1,rfl,rfl,e1.lst hD,?_,?_⟩⟩
   ·have:ts.length=acc.length:=by rw[←hrs,List.length_map]
    rw[List.length_map]
    simp at hlen
    omega
   ·have hD1:=e1.lst hD
    have ne: ∀ {b:Addr} {φ:Heap→Prop},H1 b=some (.ext φ)→b≠Dd:=fun {b φ} z w=>by rw[w,hD1]at z;cases z
    refine k2 H0 σ0 (acc++[r]) Dn _ _ hi tab (by simp at hlen ⊢;omega) ⟨aF2 (hS.sm.trans e1) hfr hD1,Dd,ts++[⟨f1,c1,pr,b,sc,pm,ctv,r⟩],rfl,hfr,by rw[upd_same,List.map_append];rfl,fun t ht=> ?_,fun t ht=> ?_,by rw[List.map_append,hrs];rfl⟩ (by simpa using f)
    ·   rcases List.mem_append.mp ht with ht|ht
        ·have k:=(hat t ht).mono e1.ex
         exact⟨by rw[upd_ne (ne k.1)];exact k.1,by rw[upd_ne (ne k.2)];exact k.2⟩
        ·have:t=⟨f1,c1,pr,b,sc,pm,ctv,r⟩:=by simpa using ht
         subst this
         exact⟨by rw[upd_ne (ne a1.1)];exact a1.1,by rw[upd_ne (ne a1.2)];exact a1.2⟩
    ·   rcases List.mem_append.mp ht with ht|ht
        ·exact hok t ht
        ·have:t=⟨f1,c1,pr,b,sc,pm,ctv,r⟩:=by simpa using ht
         subst this
         exact⟨L,hp,fun A outer s H E hrm=>hb f1 c1 A outer s H E hrm⟩
def aA5 (nmOf:Nat→Option Str)(rs:List (Sd→R D))(i:Nat)(z:Str)(τ:Sd):Bool:=decide (i<τ.length)&&(decide (rs.length<900)&&rs.all fun r=>match r (ah5 (τ.set i none))with
 | .ex c=>decide (nmOf c=some z)
 |_=>false)
theorem b0c {nm:Str}{i:Nat}(hN:X.N.Nodup)(T:aM8 X)(S:Slt X nm i)(st:Sto X nm i){u:TS}{ss rest:List Stmt}{rs:List (Sd→R D)}{pr:Arguments}{b:Expr}{sc:Scope}{r:Sd→R D}{l1 q1 q2 q3:Pos}(L:LamS X.env.scope sc)(hp:as9 pr=true)
  (hb: ∀(f c':Addr) (A:Around) (outer:List Env) (s:Shared) (H:Hp) (E:XK),Room lv (A.deeper (lamEnv X sc s.heap.objs.size f c'))→PEx (lamCx X A outer s H E sc f c') C (WE' E) true b r) (h:aA3 X C lv nm ss rs rest) (hu:PSs X rest u):
  ∃t,PSs X (.Assign [.Name nm q1] (.List [.Lambda pr b sc l1] q2) q3::ss) t∧ ∀(Dn:Ends) (σ:L2.St) (H:Hp),i<σ.length→Tabs aa0.T H→(r::rs).length<900→(∀σ' H',CSt X C lv i H (r::rs) σ σ' H'→u Dn σ' H')→t Dn σ H:=by
 obtain⟨t2,p2,k2⟩:=cG3 T S h hu
 refine⟨_,pss_cons (ps_set (pos:=q3) (pos':=q1) hN st.1 st.2.1 (pe_lst (pos:=q2) (pa_cons (bZ6 (r:=r) (body:=b) (pos:=l1) T L hp) pa_nil rfl)) rfl st.2.2) p2,fun Dn σ H hi tab hlen f=> ?_⟩
 have one:1≤sizeLine:=by decide
 refine⟨tab,fun f1 c1 pm ctv H1 e1 a1=>⟨one,fun Dp hn=> ?_⟩⟩
 have ne: ∀ {b:Addr} {φ:Heap→Prop},H1 b=some (.ext φ)→b≠Dp:=fun {b φ} z w=>by rw[w,hn]at z;cases z
 have fr:Fr H Dp:=e1.ex.free (.of hn)
 refine k2 H σ [r] Dn _ _ hi tab (by simp at hlen ⊢;omega) ⟨e1.trans (ab2 hn),Dp,[⟨f1,c1,pr,b,sc,pm,ctv,r⟩],rfl,fr,upd_same,fun t ht=> ?_,fun t ht=> ?_,rfl⟩ (by simpa using f)
 ·have:t=⟨f1,c1,pr,b,sc,pm,ctv,r⟩:=by simpa using ht
  subst this
  exact⟨by rw[upd_ne (ne a1.1)];exact a1.1,by rw[upd_ne (ne a1.2)];exact a1.2⟩
 ·have:t=⟨f1,c1,pr,b,sc,pm,ctv,r⟩:=by simpa using ht
  subst this
  exact⟨L,hp,fun A outer s H E hrm=>hb f1 c1 A outer s H E hrm⟩
end
end Fz
namespace Fz
open PySem PySem.Spec L2 LamX PyProof.Rows
variable [aa0] [FnT]
section
variable {X:Cx} {C:Nat→Addr} {W:WX} {lv:Nat}
theorem b0e {nmOf:Nat→Option Str}{rs:List (Sd→R D)}{i:Nat}{z:Str}{O:List Addr}{τ:Sd}{σ σ':L2.St}{H H':Hp}{Q:VK}(hrs:RS X.K O H σ τ)(hS:CSt X C lv i H rs σ σ' H')(hi:i<σ.length)(hl:rs.length<900)(hv: ∀r∈rs,∃c,r (ah5 (τ.set i none))= .ex c∧nmOf c=some z)
  (hq: ∀H'',Same H' H''→Q (.bl true) H''):bZ9 X C nmOf lv i z σ' H' Q∧RS X.K O H' σ' (τ.set i none):=by
 obtain⟨Dd,ts,rfl,hfr,hD,hat,hok,hr⟩:=hS.st
 have rs4:=(hrs.mono hS.sm).a3d i (some (V.ref Dd))
 refine⟨⟨O,τ.set i none,Dd,ts,rs4,List.getElem?_set_self hi,hD,?_,hat,hok,fun t ht=>hv t.r (by rw[←hr];exact List.mem_map_of_mem ht),hq⟩,rs4⟩
 have:=congrArg List.length hr
 rw[List.length_map]at this
 omega
theorem b0f {nmOf:Nat→Option Str}{rs:List (Sd→R D)}{i:Nat}{z:Str}{τ:Sd}(h:aA5 nmOf rs i z τ=true):i<τ.length∧rs.length<900∧ ∀r∈rs,∃c,r (ah5 (τ.set i none))= .ex c∧nmOf c=some z:=by
 unfold aA5 at h
 rw[Bool.and_eq_true,Bool.and_eq_true,decide_eq_true_eq,decide_eq_true_eq,List.all_eq_true]at h
 refine⟨h.1,h.2.1,fun r hr=> ?_⟩
 have:=h.2.2 r hr
 split at this
 ·rename_i c hc
  exact⟨c,hc,by simpa using this⟩
 ·cases this
variable {nm x:Str} {z:Str} {nmOf:Nat→Option Str} {i j:Nat} {ss tail:List Stmt} {rs:List (Sd→R D)} {pr:Arguments} {b:Expr} {sc:Scope} {r:Sd→R D} {l1 q1 q2 q3 q4 q5 q6 q7 q8 q9 q10 q11:Pos} {j2:Nat}
 (hN:X.N.Nodup) (T:aM8 X) (S:Slt X nm i) (st:Sto X nm i) (AA:at8 X C x nmOf) (hg:Gl X x) (hr:Room (lv+2) X.A) (hz1:PyData.strOk z=true) (hz2:z.length≤sizeLine) (L:LamS X.env.scope sc) (hp:as9 pr=true)
 (hb: ∀(f c':Addr) (A:Around) (outer:List Env) (s:Shared) (H:Hp) (E:XK),Room lv (A.deeper (lamEnv X sc s.heap.objs.size f c'))→PEx (lamCx X A outer s H E sc f c') C (WE' E) true b r)
include hN T S st AA hg hr hz1 hz2 L hp hb
theorem cG5 {k:Sd→SR}(h:aA3 X C lv nm ss rs (.If (.UnaryOp .Not (.Call (.Name x q4) [.Name nm q5,.Constant (.str z) j q6] [] q7) q8) [.Return (some (.Constant (.bool false) j2 q9)) q10] [] q11::tail))(ht:ah6 X C W tail k):
  ah6 X C W (.Assign [.Name nm q1] (.List [.Lambda pr b sc l1] q2) q3::ss) (fun τ=>(if aA5 nmOf (r::rs) i z τ=true then SR.nx (τ.set i none)else SR.no).thn k):=by
 have call:=b0b (p:=q4) (p1:=q5) (p2:=q6) (pos:=q7) (j:=j) (lv:=lv) AA hg S hr hz1 hz2
 obtain⟨t,p,kk⟩:=b0c (q1:=q1) (q2:=q2) (q3:=q3) (l1:=l1) hN T S st L hp hb h (pss_cons (ps_if (pos:=q11) (pt_not (pos:=q8) (pt_val call)) (pss_one (ps_ret (pos:=q10) (pe_bl (b:=false) (j:=j2) (pos:=q9)))) pss_nil) ht)
 refine p.aa7 fun Dd σ H ⟨Hb,O,τ,hrs,sb,hh⟩=> ?_
 by_cases hc:aA5 nmOf (r::rs) i z τ=true
 ·dsimp only at hh
  rw[if_pos hc]at hh
  obtain⟨h1,h2,h3⟩:=b0f hc
  have hi:i<σ.length:=by rw[hrs.len];exact h1
  refine kk Dd σ H hi hrs.tab h2 fun σ' H' hS=> ?_
  have sm:=hS.sm
  obtain⟨Dd',ts,eσ,hst⟩:=hS.st
  have rs2:=(hrs.mono sm).a3d i (some (V.ref Dd'))
  rw[←eσ]at rs2
  exact(b0e (nmOf:=nmOf) (z:=z) (Q:=fun v H''=> ∃c,v= .bl c∧(fun b H1=>if b=true then tSeq (tRet (tC (.bl false))) tNext { Dd with nx:=tS X.K C W k Dd } σ' H1 else tNext { Dd with nx:=tS X.K C W k Dd } σ' H1) (!c) H'') hrs hS hi h2 h3 fun H'' e=>⟨true,rfl,Hb,O,τ.set i none,rs2.mono e,sb.trans ((sm.trans e).ag6 hrs.lst),hh⟩).1
 ·dsimp only at hh
  rw[if_neg hc]at hh
  exact hh.elim
theorem cG6 (h:aA3 X C lv nm ss rs [.Return (some (.Call (.Name x q4) [.Name nm q5,.Constant (.str z) j q6] [] q7)) q8]):
  ah6 X C W (.Assign [.Name nm q1] (.List [.Lambda pr b sc l1] q2) q3::ss) (fun τ=>if aA5 nmOf (r::rs) i z τ=true then SR.rt (.bool true)else SR.no):=by
 have call:=b0b (p:=q4) (p1:=q5) (p2:=q6) (pos:=q7) (j:=j) (lv:=lv) AA hg S hr hz1 hz2
 obtain⟨t,p,kk⟩:=b0c (q1:=q1) (q2:=q2) (q3:=q3) (l1:=l1) hN T S st L hp hb h (pss_one (ps_ret (pos:=q8) call))
 refine p.aa7 fun Dd σ H ⟨Hb,O,τ,hrs,sb,hh⟩=> ?_
 by_cases hc:aA5 nmOf (r::rs) i z τ=true
 ·dsimp only at hh
  rw[if_pos hc]at hh
  obtain⟨h1,h2,h3⟩:=b0f hc
  have hi:i<σ.length:=by rw[hrs.len];exact h1
  refine kk Dd σ H hi hrs.tab h2 fun σ' H' hS=> ?_
  exact(b0e (nmOf:=nmOf) (z:=z) (Q:=Dd.rt) hrs hS hi h2 h3 fun H'' e=>hh (.bl true) H'' ((sb.trans ((hS.sm.trans e).ag6 hrs.lst)).trans ay2) (.bl true)).1
 ·dsimp only at hh
  rw[if_neg hc]at hh
  exact hh.elim
end
end Fz
namespace Fz
open PySem PySem.Spec L2 LamX PyProof.Rows
variable [aa0] [FnT]
def b0i (c:Cfg)(nm:Str)(e:E):Stmt→Bool
 | .Expr (.Call (.Attribute (.Name n _) m q5) [.Lambda pr b sc _] [] q6) _=>n==nm&&m==("append":Str)&&(q5.endLine==q6.line)&&as9 pr&&LamX.lamSB c.sc sc&&ck (c.lam sc) .str e b
 |_=>false
def aH7 (c:Cfg)(nm:Str):List E→List Stmt→Option (List Stmt)
 | [],ss=>some ss
 |  e::es,ss=>match ss with
    | []=>none
    |s::ss=>if b0i c nm e s=true then aH7 c nm es ss else none
def b0j (c:Cfg)(nm:Str)(e:E):Stmt→Bool
 | .Assign [.Name n _] (.List [.Lambda pr b sc _] _) _=>n==nm&&as9 pr&&LamX.lamSB c.sc sc&&ck (c.lam sc) .str e b
 |_=>false
def b0m (x nm z:Str):List Stmt→Bool
 | [.Return (some (.Call (.Name x1 _) [.Name n1 _,.Constant (.str z1) _ _] [] _)) _]=>x1==x&&n1==nm&&z1==z
 |_=>false
def b0n (x nm z:Str):Stmt→Bool
 | .If (.UnaryOp .Not (.Call (.Name x1 _) [.Name n1 _,.Constant (.str z1) _ _] [] _) _) [.Return (some (.Constant (.bool false) _ _)) _] [] _=>x1==x&&n1==nm&&z1==z
 |_=>false
structure LBk where
 e:E
 es:List E
 z:Str
def aA7 (c:Cfg)(x nm:Str):List LBk→List Stmt→Bool
 | [],_=>false
 |  b::bs,ss=>match ss with
    | []=>false
    |s::ss=>b0j c nm b.e s&&PyData.strOk b.z&&decide (b.z.length≤1000)&&(match aH7 c nm b.es ss with
     |none=>false
     |some r=>match bs with
      | []=>b0m x nm b.z r
      |_::_=>match r with
       | []=>false
       |t::tail=>b0n x nm b.z t&&aA7 c x nm bs tail)
def a3u (Φ:Nat→List D→R D)(nmOf:Nat→Option Str)(i:Nat):List LBk→Sd→SR
 | [],_=> .no
 |  b::bs,τ=>match bs with
    | []=>if aA5 nmOf (ev Φ b.e::b.es.map (ev Φ)) i b.z τ=true then SR.rt (.bool true)else SR.no
    |_::_=>(if aA5 nmOf (ev Φ b.e::b.es.map (ev Φ)) i b.z τ=true then SR.nx (τ.set i none)else SR.no).thn (a3u Φ nmOf i bs)
section
variable {X:Cx} {C:Nat→Addr} {Φ:Nat→List D→R D} {W:WX} {lv:Nat} {c:Cfg}
theorem b0o (g:Good X c C Φ W)(hf: ∀x f,c.fns.lookup x=some f→FnAt X C lv x (Φ f)){nm:Str}{rest:List Stmt}: ∀(es:List E) (ss:List Stmt),aH7 c nm es ss=some rest→aA3 X C lv nm ss (es.map (ev Φ)) rest
 | [],ss,h=>by
   have:ss=rest:=by simpa[aH7]using h
   subst this
   exact .nil
 |e::es,[],h=>by simp[aH7]at h
 | e::es,s::ss,h=>by
   simp only[aH7]at h
   split at h
   ·rename_i h1
    have ih:=b0o g hf es ss h
    unfold b0i at h1
    split at h1
    ·   rename_i n p4 m q5 pr b sc l1 q6 q7
        simp only[Bool.and_eq_true,beq_iff_eq]at h1
        obtain⟨⟨⟨⟨⟨rfl,rfl⟩,hl⟩,h2⟩,h3⟩,h4⟩:=h1
        exact .cons (by rw[g.sc];exact LamX.lamS_by h3) h2 (by simpa using hl) (fun f c' A outer s H E hrm=>sound C Φ e (g.bR2 hf hrm) .str b h4) ih
    ·cases h1
   ·cases h
theorem b0r {x nm:Str}{nmOf:Nat→Option Str}{i:Nat}(g:Good X c C Φ W)(hf: ∀x f,c.fns.lookup x=some f→FnAt X C lv x (Φ f))(T:aM8 X)(AA:at8 X C x nmOf)(hr:Room (lv+2) X.A)(h1:ap9 c i nm=true)(h2:an3 c i nm=true)(h3:glB c x=true):
  ∀(bs:List LBk) (ss:List Stmt),aA7 c x nm bs ss=true→ah6 X C W ss (a3u Φ nmOf i bs)
 | [],_,h=>by cases h
 |b::bs,[],h=>by cases h
 |b::bs,s::ss,h=>by
  have big:1000≤sizeLine:=by decide
  obtain⟨s1,s2,s3,s4⟩:=slot_of g h2
  have st:=a3h g h1
  have S:Slt X nm i:=⟨s1,s2,s3,s4⟩
  have hg:=az2 g h3
  simp only[aA7,Bool.and_eq_true,decide_eq_true_eq]at h
  obtain⟨⟨⟨a1,a2⟩,a3⟩,a4⟩:=h
  unfold b0j at a1
  split at a1
  ·rename_i n q1 pr b0 sc l1 q2 q3
   simp only[Bool.and_eq_true,beq_iff_eq]at a1
   obtain⟨⟨⟨rfl,p2⟩,p3⟩,p4⟩:=a1
   have L:LamS X.env.scope sc:=by rw[g.sc];exact LamX.lamS_by p3
   have hb:=fun(f c':Addr) (A:Around) (outer:List Env) (s:Shared) (H:Hp) (E:XK) (hrm:Room lv (A.deeper (lamEnv X sc s.heap.objs.size f c')))=>sound C Φ b.e (g.bR2 (outer:=outer) (s:=s) (H:=H) (E:=E) (f:=f) (c':=c') hf hrm) .str b0 p4
   cases hap:aH7 c n b.es ss with
   |none=>rw[hap]at a4;cases a4
   |    some r=>
        rw[hap]at a4
        dsimp only at a4
        have ap:=b0o g hf b.es ss hap
        cases bs with
        |nil=>
         dsimp only at a4
         unfold b0m at a4
         split at a4
         ·rename_i x1 p5 n1 p6 z1 j p7 p8 p9
          simp only[Bool.and_eq_true,beq_iff_eq]at a4
          obtain⟨⟨rfl,rfl⟩,hz⟩:=a4
          subst hz
          exact cG6 g.nd T S st AA hg hr a2 (Nat.le_trans a3 big) L p2 hb ap
         ·cases a4
        |cons b2 bs=>
         dsimp only at a4
         split at a4
         ·cases a4
         ·rename_i t tail
          rw[Bool.and_eq_true]at a4
          obtain⟨t1,t2⟩:=a4
          have ih:=b0r g hf T AA hr h1 h2 h3 (b2::bs) tail t2
          unfold b0n at t1
          split at t1
          ·rename_i x1 p5 n1 p6 z1 j p7 p8 p9 j2 p10 p11 p12
           simp only[Bool.and_eq_true,beq_iff_eq]at t1
           obtain⟨⟨rfl,rfl⟩,hz⟩:=t1
           subst hz
           exact cG5 g.nd T S st AA hg hr a2 (Nat.le_trans a3 big) L p2 hb ap ih
          ·cases t1
  ·cases a1
end
def bkM (Φ:Nat→List D→R D)(nmOf:Nat→Option Str)(n m i:Nat)(bs:List LBk)(ds:List D):R D:=if ds.length=m then(match a3u Φ nmOf i bs (ad8 n ds)with
 | .rt d=> .ok d
 |_=> .no)else .no
section
variable {P:Program} {w:World} {K:Fr'} {mg:Str→Option Value} {base:Heap} {C:Nat→Addr} {glo:List (Str×D)} {exs:List (Str×Nat)} {fns:List (Str×Nat)} {lv:Nat} {Φ:Nat→List D→R D} {x q:Str} {params:Arguments} {body:List Stmt} {scope:Scope} {kws:List (Str×V)} {f:Addr} {fd:FuncData} {N ps:List Str}
theorem a3v {x0 y nm:Str}{nmOf:Nat→Option Str}{i:Nat}{bs:List LBk}(pw:P=aa0.P∧w=aa0.w)(G:Glb K mg C glo exs)(hf: ∀x f,fns.lookup x=some f→FnG P w K mg base C lv x (Φ f))(F:FunD K x0 q params body scope [] kws f fd)(hs:scB N ps scope=true)
  (h:aA7 ⟨N,scope,stOf scope,fns,glo,exs,[],[],[],false,[],[],[],[],[]⟩ y nm bs body=true) (h1:ap9 ⟨N,scope,stOf scope,fns,glo,exs,[],[],[],false,[],[],[],[],[]⟩ i nm=true) (h2:an3 ⟨N,scope,stOf scope,fns,glo,exs,[],[],[],false,[],[],[],[],[]⟩ i nm=true) (h3:glB ⟨N,scope,stOf scope,fns,glo,exs,[],[],[],false,[],[],[],[],[]⟩ y=true)
  (TDx:aM3 base mg q fd) (AA: ∀X:Cx,X.K=K→X.mg=mg→at8 X C y nmOf) (hm:mg x=some (.ref f)) (hb:Binds K fd ps []) (hx:(x==("__debug__":Str))=false):FnG P w K mg base C (lv+3) x (bkM Φ nmOf N.length ps.length i bs):=by
 obtain⟨oc,od,dV,kV,doc,pm,an,cdv0,ct,osl,rfl,lk,hcd,_,_⟩:=id F.ex
 obtain⟨c,rfl⟩:=He.codeIn_ref hcd
 have hS:=(ax3 hs).1
 refine⟨lv+3,f,_,ps,Nat.le_refl _,fn_of lk hcd hS (fun vs H Q E hsp=> ?_) (fun A outer s H vs Q E hr hsp=> ?_),hm,F.kp,hb,hx⟩
 ·obtain⟨ds,r,_,z⟩:=hsp
  rw[r.length]
  by_cases hl:ds.length=ps.length
  ·exact hl
  ·unfold bkM at z
   rw[if_neg hl]at z
   exact z.elim
 ·obtain⟨ds,r,tb,z⟩:=hsp
  let X:Cx:=cxOf (L2.CX P w) P w K mg base N q scope f (.ref c) A outer s H E
  have tk:Takes X (fun cls d _ H=>E cls d H):=takes_of rfl rfl rfl rfl
  have gd:=(a3k (CXX:=L2.CX P w) (N:=N) (ps:=ps) (fns:=fns) (trs:=[]) (cdv:= .ref c) (outer:=outer) (s:=s) (H:=H) (E:=E) pw (fun t ht=>by cases ht) G hf hs (frs:=[]) (fun _ _ h=>by cases h) (hr.mono (by omega)) (srt:=[]) (fun _ _ h=>by cases h) tk).toGood
  obtain⟨P0,t1,t2,t3⟩:=TDx c rfl
  have T:aM8 X:=⟨c,P0,t1,rfl,t2,t3⟩
  have hfn: ∀x f,fns.lookup x=some f→FnAt X C lv x (Φ f):=fun x g hl=>hf x g hl
  refine⟨_,b0r gd hfn T (AA X rfl rfl) hr h1 h2 h3 bs body h,?_⟩
  have hl:ds.length=ps.length:=by
   by_cases hl:ds.length=ps.length
   ·exact hl
   ·    unfold bkM at z
        rw[if_neg hl]at z
        exact z.elim
  refine⟨H,[],ad8 N.length ds,a2M r tb N,by rw[an8];exact Same.refl _,?_⟩
  unfold bkM at z
  rw[if_pos hl]at z
  cases hx:a3u Φ nmOf i bs (ad8 N.length ds)with
  |rt d=>
   rw[hx]at z
   exact fun v H' s r=>z v H' s r
  |nx τ=>rw[hx]at z;exact z.elim
  |rf ys=>rw[hx]at z;exact z.elim
  |ex c=>rw[hx]at z;exact z.elim
  |no=>rw[hx]at z;exact z
end
end Fz
namespace Fz
open PySem PySem.Spec L2 LamX PyProof.Rows
variable [aa0] [FnT]
structure a8q (X:Cx)(lv:Nat)(x:Str)(m:List D→R D)(f:Addr):Prop where
 mg:X.mg x=some (.ref f)
 kp:PySem.W.keepIn X.K (.ref f)=true
 clo:ag7 X.prog X.w X.K X.mg X.base lv ⟨f,fun _=>True,fun ds=>(m ds).calm⟩
 dbg:(x==("__debug__":Str))=false
section
variable {X:Cx} {C:Nat→Addr} {W:WX}
def tLk (X:Cx)(C:Nat→Addr)(W:WX)(lv i:Nat)(rr:Sd→R (List D)):TE:=fun σ H Q=> ∃(f:Addr) (m:List D→R D) (O:List Addr) (τ:Sd),RS X.K O H σ τ∧σ[i]? =some (some (.ref f))∧PySem.W.keepIn X.K (.ref f)=true∧ag7 X.prog X.w X.K X.mg X.base lv ⟨f,fun _=>True,fun ds=>(m ds).calm⟩∧
 Ans C W O H σ (rM X.K true O) Q ((rr τ).bind fun ds=>(m ds).calm)
theorem cG8 {lv:Nat}(hr:Room lv X.A){i:Nat}{x:Str}(S:Slt X x i){e:Expr}{es:List Expr}{rr:Sd→R (List D)}{p pos:Pos}(ha:PAx X C W (e::es) rr)(he:starEach (e::es) X.env=(false,eval e X.env)::starEach es X.env)(hpl:(backTo pos (starEach es X.env)).any (·.1)=false):
  PE X (.Call (.Name x p) (e::es) [] pos) (tLk X C W lv i rr):=by
 refine⟨fun pins s σ H Q I hh=> ?_⟩
 obtain⟨f,m,O,τ,rs,hs,hK,CRg,hh⟩:=hh
 refine wpAny_Call_Name_kw (thn ((pe_var (pos:=p) S.at_ S.vis S.d1 S.d2).run pins s σ H (fun v H1=>v= .ref f∧H1=H) I ⟨.ref f,hs,rfl,rfl⟩) fun u s1 ⟨v,H1,I1,r1,q1⟩=> ?_)
 obtain⟨rfl,rfl⟩:=q1
 cases r1
 have fin: ∀(us:List Value) (s2:Shared) (vs:List V) (H2:Hp) (ds:List D),Inv X pins σ H2 s2→Vals vs us→Same H1 H2→aa1 X.K (hide H2 O) vs ds→Ans C W O H2 σ (rM X.K true O) Q (m ds).calm→wpAny (model X.prog X.w) X.A (call (.ref f) us) (EP X pins σ Q) X.xe s2:=fun us s2 vs H2 ds I2 r e2 rp q=>by
  have rs2:=rs.mono e2
  cases hM:(m ds).calm with
  |no=>rw[hM]at q;exact q.elim
  |ex c=>
   cases h2:m ds with
   |ok d=>rw[h2]at hM;cases hM
   |ex c=>rw[h2]at hM;cases hM
   |no=>rw[h2]at hM;cases hM
  |ok d=>
   rw[hM]at q
   have Ih:=Inv.hide I2 rs2.lst
   have rc:=CRg.run X.A X.stack s2 (hide H2 O) us vs ds d (fun v H3=>Same (hide H2 O) H3∧Rp X.K H3 v d) (fun _ _ _=>False) hr Ih.env0 (au7 rs2.lst rs2.tab) trivial r rp hM fun v H' a b=>⟨a,b⟩
   refine wpAny_call (codeAny_mono rc fun res s3 hc=> ?_)
   cases res with
   |    error x=>
        obtain⟨_,_,_,_,_,_,_,_,_,_,_,_,z⟩:=hc
        exact z.elim
   |    ok fl=>
        cases fl with
        |ret u=>
         obtain⟨v',H3,I3,rv',q3⟩:=Ih.after hc
         obtain⟨I4,hn4⟩:=Inv.ao7 I2 rs2.lst I3
         exact⟨v',_,I4,rv',q v' _ (aS5 rs2.lst hn4 q3.1) (ad1 (by rw[aS3 hn4];exact q3.2))⟩
        |next=>exact hc.elim
        |brk=>exact hc.elim
        |cont=>exact hc.elim
 have ar:=ha.run pos pins s1 σ H1 (fun vs H2=>Same H1 H2∧ ∃ds,aa1 X.K (hide H2 O) vs ds∧Ans C W O H2 σ (rM X.K true O) Q (m ds).calm) I1 ⟨O,τ,rs,Ans.step hh fun ds vs H2 e2 r a=>⟨e2,ds,r,a⟩⟩
 exact PySem.W.callWith_K (h₀:=X.base) I1.ok.mod.kin hK (thn ar fun us s2 ⟨vs,H2,I2,r,e2,ds,rp,q⟩=>⟨I2.kIn,fin us s2 vs H2 ds I2 r e2 rp q⟩) he hpl
def aH8 (c:Cfg):List Str→List Expr→Bool
 | [],[]=>true
 |x::xs,.Name y _::ys=>x==y&&glB c x&&aH8 c xs ys
 |_,_=>false
def a8s (c:Cfg)(i:Nat)(as:List E)(fs:List Str):Stmt→Bool
 | .For (.Name lk _) (.List es _) [.If (.UnaryOp .Not (.Call (.Name lk2 _) (e0::er) [] _) _) [.Return (some (.Constant (.bool false) _ _)) _] [] _] [] _=>lk2==lk&&ap9 c i lk&&an3 c i lk&&ckL c as (e0::er)&&aH8 c fs es&&decide (fs.length<900)
 |_=>false
def aA9 (Φ:Nat→List D→R D)(ms:List (List D→R D))(as:List E)(i:Nat)(τ:Sd):SR:=
 if(decide (i<τ.length)&&ms.all fun m=>as4 ((evs Φ as (τ.set i none)).bind fun ds=>(m ds).calm))=true then SR.nx (τ.set i none)else SR.no
theorem b0v {c:Cfg}{Φ:Nat→List D→R D}(g:Good X c C Φ W){lv:Nat}: ∀ {fms:List (Str×(List D→R D))} {es:List Expr},(∀p∈fms,∃f,a8q X lv p.1 p.2 f)→aH8 c (fms.map (·.1)) es=true→
  ∃(t:TA) (as:List Addr),PA X es t∧as.length=fms.length∧(∀(j:Nat) (p:Str×(List D→R D)),fms[j]? =some p→ ∃f,as[j]? =some f∧a8q X lv p.1 p.2 f)∧ ∀σ H Q,Q (as.map V.ref) H→t σ H Q
 | [],[],_,_=>⟨_,[],pa_nil,rfl,fun j p h=>by simp at h,fun σ H Q h=>h⟩
 | [],_::_,_,h=>by simp[aH8]at h
 |p::fms,es,hf,h=>by
  cases es with
  |nil=>simp[aH8]at h
  |cons e es=>
   cases e with
   |    Name y pos=>
        simp only[List.map_cons,aH8,Bool.and_eq_true,beq_iff_eq]at h
        obtain⟨⟨h1,h2⟩,h3⟩:=h
        obtain⟨f,F⟩:=hf p List.mem_cons_self
        obtain⟨t,as,q1,q2,q3,q4⟩:=b0v g (fun z hz=>hf z (List.mem_cons_of_mem _ hz)) h3
        have hg:=az2 g h2
        rw[←h1]
        refine⟨_,f::as,pa_cons (pe_glob (v:= .ref f) (pos:=pos) hg F.mg rfl F.dbg) q1 rfl,by simp[q2],fun j z hz=> ?_,fun σ H Q hq=>q4 σ H _ hq⟩
        cases j with
        |zero=>
         have:p=z:=by simpa using hz
         subst this
         exact⟨f,rfl,F⟩
        |succ j=>
         obtain⟨f',a1,a2⟩:=q3 j z (by simpa using hz)
         exact⟨f',by simpa using a1,a2⟩
   |_=>simp[aH8]at h
theorem cH0 {c:Cfg}{Φ:Nat→List D→R D}(gd:ax2 X c C Φ W){lv i:Nat}{as:List E}{fms:List (Str×(List D→R D))}{st:Stmt}{tail:List Stmt}{k:Sd→SR}(hr:Room lv X.A)(hf: ∀p∈fms,∃f,a8q X lv p.1 p.2 f)(h:a8s c i as (fms.map (·.1)) st=true)(ht:ah6 X C W tail k):
  ah6 X C W (st::tail) (fun τ=>(aA9 Φ (fms.map (·.2)) as i τ).thn k):=by
 have g:=gd.toGood
 have big:1000≤sizeLine:=by decide
 unfold a8s at h
 split at h
 ·rename_i lk p1 es p2 lk2 p3 e0 er p4 p5 j p6 p7 p8 p9
  simp only[Bool.and_eq_true,beq_iff_eq,decide_eq_true_eq]at h
  obtain⟨⟨⟨⟨⟨rfl,h1⟩,h2⟩,h3⟩,h4⟩,h5⟩:=h
  have St:=a3h g h1
  obtain⟨s1,s2,s3,s4⟩:=slot_of g h2
  obtain⟨pa,hl,hn⟩:=az4 (fun e _=>sound C Φ e) g h3
  obtain⟨t,fs,q1,q2,q3,q4⟩:=b0v g hf h4
  have call:=cG8 (X:=X) (C:=C) (W:=W) (p:=p3) (pos:=p4) hr ⟨s1,s2,s3,s4⟩ pa (ab0 (hn e0 List.mem_cons_self)) (pl2 fun x hx=>hn x (List.mem_cons_of_mem _ hx))
  have body:=pss_one (ps_if (X:=X) (pos:=p8) (pt_not (pos:=p5) (pt_val call)) (pss_one (ps_ret (pos:=p7) (pe_bl (b:=false) (j:=j) (pos:=p6)))) pss_nil)
  have loop:=ps_for (X:=X) (pos:=p9) gd.own gd.calm (pi_list (pe_lst (pos:=p2) q1)) (pg_name (X:=X) (pos:=p1) g.nd St.1 St.2.1 St.2.2) body (fun _=>rfl)
  refine(pss_cons loop ht).aa7 fun Dd σ H ⟨Hb,O,τ,rs,sb,hh⟩=> ?_
  by_cases hc:(decide (i<τ.length)&&(fms.map (·.2)).all fun m=>as4 ((evs Φ as (τ.set i none)).bind fun ds=>(m ds).calm))=true
  ·replace hh:ad5 X.K C W Hb Dd ((aA9 Φ (fms.map (·.2)) as i τ).thn k):=hh
   unfold aA9 at hh
   rw[if_pos hc]at hh
   rw[Bool.and_eq_true,decide_eq_true_eq,List.all_eq_true]at hc
   obtain⟨hi,hall⟩:=hc
   have hi:i<σ.length:=by rw[rs.len];exact hi
   rw[List.length_map]at h5
   refine q4 _ _ _ ⟨by rw[List.length_map];omega,fun p hn=>⟨p,rfl,⟨_,.of upd_same⟩,?_⟩⟩
   have rs0:RS X.K O H σ (τ.set i none):=by
        have:=rs.a3d i σ[i]
        rwa [List.set_getElem_self]at this
   refine for_it (walk_list (K:=X.K) (a:=p) (xs:=fs.map V.ref)) (fun j σ' H'=>RS X.K O H' σ' (τ.set i none)∧Same H H'∧H' p=some (.lst (fs.map V.ref))) ⟨rs0.mono (ab2 hn),ab2 hn,upd_same⟩ (fun j σ' H' _ z=> .of z.2.2) ?_ ?_
   ·    rintro j x σ1 H2 H3 hj ⟨rs1,sm,hp⟩ ⟨rfl,hx⟩
        rw[List.length_map]at hj
        rw[List.getElem?_map,List.getElem?_eq_getElem hj]at hx
        cases hx
        have hj2:j<fms.length:=by omega
        obtain⟨f,e1,F⟩:=q3 j fms[j] (List.getElem?_eq_getElem hj2)
        have ef:fs[j]=f:=by rw[List.getElem?_eq_getElem hj]at e1;exact Option.some.inj e1
        have rs2:=rs1.a3d i (some (V.ref fs[j]))
        rw[List.set_set]at rs2
        have hm:=cw4 (hall fms[j].2 (List.mem_map_of_mem (List.getElem_mem hj2)))
        refine⟨fs[j],fms[j].2,O,τ.set i none,rs2,List.getElem?_set_self (by rw[rs1.len,List.length_set,←rs.len];exact hi),by rw[ef];exact F.kp,by rw[ef];exact F.clo,?_⟩
        rw[hm]
        intro v H4 s4 r4
        have e4:v= .bl true:=Rp.aq9 r4
        subst e4
        refine⟨true,rfl,?_⟩
        exact⟨rs2.mono s4,sm.trans s4,s4.lst hp⟩
   ·    rintro σ1 H1 ⟨rs1,sm,hp⟩
        exact⟨Hb,O,τ.set i none,rs1,sb.trans (sm.ag6 rs.lst),hh⟩
  ·replace hh:ad5 X.K C W Hb Dd ((aA9 Φ (fms.map (·.2)) as i τ).thn k):=hh
   unfold aA9 at hh
   rw[if_neg hc]at hh
   exact hh.elim
 ·cases h
def aN1 (c:Cfg):List S→List Stmt→Option (List Stmt)
 | [],xs=>some xs
 |  s::ss,xs=>match xs with
    | []=>none
    |x::r=>if cs c s x=true then aN1 c ss r else none
theorem b0x {c:Cfg}{Φ:Nat→List D→R D}{Fu:Nat}(gd:ax2 X c C Φ W){rest:List Stmt}{k:Sd→SR}(hk:ah6 X C W rest k): ∀(irs:List S) (ss:List Stmt),aN1 c irs ss=some rest→ah6 X C W ss (fun τ=>(xs Φ Fu irs τ).thn k)
 | [],ss,h=>by
   have:ss=rest:=by simpa[aN1]using h
   subst this
   exact hk
 |s::irs,[],h=>by simp[aN1]at h
 | s::irs,x::ss,h=>by
   simp only[aN1]at h
   split at h
   ·rename_i h1
    have:=bS9 (bW4 C Φ Fu s gd x h1) (b0x (Fu:=Fu) gd hk irs ss h)
    refine this.aa7 fun Dd σ H ⟨Hb,O,τ,rs,sb,hh⟩=>⟨Hb,O,τ,rs,sb,?_⟩
    have e:(xs Φ Fu (s::irs) τ).thn k=(x1 Φ Fu s τ).thn fun τ2=>(xs Φ Fu irs τ2).thn k:=by
        show((x1 Φ Fu s τ).thn fun τ2=>xs Φ Fu irs τ2).thn k=_
        cases x1 Φ Fu s τ<;>rfl
    show ad5 X.K C W Hb Dd ((x1 Φ Fu s τ).thn fun τ2=>(xs Φ Fu irs τ2).thn k)
    rw[←e]
    exact hh
   ·cases h
end
def a8t (c:Cfg)(irs:List S)(i:Nat)(as:List E)(fs:List Str)(body:List Stmt):Bool:=match aN1 c irs body with
 |some [st,.Return (some (.Constant (.bool true) _ _)) _]=>a8s c i as fs st
 |_=>false
def a3w (Φ:Nat→List D→R D)(Fu:Nat)(irs:List S)(i:Nat)(as:List E)(ms:List (List D→R D))(τ:Sd):SR:=(xs Φ Fu irs τ).thn fun τ=>(aA9 Φ ms as i τ).thn fun _=> .rt (.bool true)
section
variable {P:Program} {w:World} {K:Fr'} {mg:Str→Option Value} {base:Heap} {C:Nat→Addr} {glo:List (Str×D)} {exs:List (Str×Nat)} {fns:List (Str×Nat)} {lv:Nat} {Φ:Nat→List D→R D} {x q:Str} {params:Arguments} {body:List Stmt} {scope:Scope} {kws:List (Str×V)} {f:Addr} {fd:FuncData} {N ps:List Str} {irs:List S} {Fu:Nat}
theorem cH2 {i:Nat}{as:List E}{fms:List (Str×(List D→R D))}(pw:P=aa0.P∧w=aa0.w)(G:Glb K mg C glo exs)(hf: ∀x f,fns.lookup x=some f→FnG P w K mg base C lv x (Φ f))(hl: ∀p∈fms,FnG P w K mg base C lv p.1 p.2)(F:FunD K x q params body scope [] kws f fd)(hs:scB N ["script"] scope=true)
  (h:a8t ⟨N,scope,stOf scope,fns,glo,exs,[],[],[],false,[],[],[],[],[]⟩ irs i as (fms.map (·.1)) body=true) (hlaw: ∀ns:List Int,ns.length≤63→a3w Φ Fu irs i as (fms.map (·.2)) (ad8 N.length [.list (ns.map .int)])= .rt (.bool true)):FnOk P w K mg base CX0 (lv+1) f fd ["script"] (a7W K):=by
 refine FunD.ok F (ax3 hs).1 (fun vs H Q E hsp=> ?_) (fun cdv A outer s H vs Q E hr hsp=> ?_)
 ·obtain⟨a,ns,rfl,_⟩:=hsp
  rfl
 ·obtain⟨a,ns,rfl,hlen,tb,hq,z⟩:=hsp
  have gd:=a3k (CXX:=CX0) (N:=N) (ps:=["script"]) (fns:=fns) (q:=q) (cdv:=cdv) (outer:=outer) (s:=s) (H:=H) (E:=E) (W:=W0) (trs:=[]) pw (fun t ht=>by cases ht) G hf hs (frs:=[]) (fun _ _ h=>by cases h) hr (srt:=[]) (fun _ _ h=>by cases h) L2.takes0
  unfold a8t at h
  split at h
  ·rename_i st j p1 p2 hc
   have tail:ah6 (cxOf CX0 P w K mg base N q scope f cdv A outer s H E) C W0 [.Return (some (.Constant (.bool true) j p1)) p2] (fun _=> .rt (.bool true)):=by
        refine(pss_one (ps_ret (pos:=p2) (pe_bl (b:=true) (j:=j) (pos:=p1)))).aa7 fun Dd σ H ⟨Hb,O,τ,rs,sb,hh⟩=> ?_
        exact hh (.bl true) H (sb.trans ay2) (.bl true)
   have lk:=cH0 gd (lv:=lv) (fms:=fms) hr (fun p hp=> ?_) h tail
   ·    refine⟨_,b0x gd (Fu:=Fu) lk irs body hc,?_⟩
        have hall: ∀ns:List Int,aa1 K H (ns.map V.int) (ns.map PyData.int):=fun ns=>by
         induction ns with
         |nil=>exact .nil
         |cons n r ih=>exact .cons (.int n) ih
        have r1:aa1 K H [V.ref a] [PyData.list (ns.map .int)]:= .cons (.lst hq (hall ns) (by rw[List.length_map,sizeLine_eq];omega)) .nil
        refine⟨H,[],ad8 N.length [.list (ns.map .int)],a2M r1 tb N,by rw[an8];exact Same.refl _,?_⟩
        have e:=hlaw ns hlen
        unfold a3w at e
        dsimp only
        rw[e]
        intro v H' _ r
        cases Rp.aq9 r
        exact z H'
   ·    obtain⟨g,g1,g2,g3⟩:=bP2 (hl p hp)
        obtain⟨k,f',fd',ps',hk,e1,e2,e3,e4,e5⟩:=hl p hp
        exact⟨g,g1,g2,g3,e5⟩
  ·cases h
end
end Fz
namespace Fz
open PySem PySem.Spec L2 PyProof.Rows
variable [aa0] [FnT]
def a8u:Option V→Bool
 |some (.bl true)=>true
 |_=>false
theorem cH3 {o:Option V}(h:a8u o=true):o=some (.bl true):=by
 unfold a8u at h
 split at h
 ·rfl
 ·cases h
def a8x (z:Str):Option Am→Bool
 |some (.inr y)=>y==z
 |_=>false
theorem cH5 {z:Str}{o:Option Am}(h:a8x z o=true):o=some (.inr z):=by
 unfold a8x at h
 split at h
 ·have:=eq_of_beq h
  subst this
  rfl
 ·cases h
def nmE (cls:List (Nat×Str)):Nat→Option Str:=fun c=>cls.lookup c
def a8B (ks ns:List Am)(p:Nat×Str):Bool:=decide ((ks.map (amV fun n=>n==p.1)).countP (fun y=>eqV y (.bl true))=1)&&(match(ks.map (amV fun n=>n==p.1)).findIdx? (fun y=>eqV y (.bl true))with
 |some n=>a8u (ks.map (amV fun n=>n==p.1))[n]? &&a8x p.2 ns[n]?
 |none=>false)
def a8E (sc:Scope)(exs:List (Str×Nat))(kns:List Nat)(fa ki na:Str)(body:List Stmt)(cls:List (Nat×Str)):Bool:=match lcB sc exs kns fa ki na body with
 |some (ks,ns)=>decide (ks.length<900)&&decide (ns.length<900)&&cls.all (a8B ks ns)
 |none=>false
theorem a8L: ∀ {l:List (Nat×Str)} {x:Nat} {a:Str},l.lookup x=some a→(x,a)∈l
 | [],_,_,h=>by cases h
 |(y,b)::r,x,a,h=>by
  rw[List.lookup_cons]at h
  by_cases e:(x==y)=true
  ·rw[e]at h
   have:b=a:=by simpa using h
   have e':x=y:=by simpa using e
   subst this;subst e';exact List.mem_cons_self
  ·have e:(x==y)=false:=by simpa using e
   rw[e]at h
   exact List.mem_cons_of_mem _ (a8L h)
section
variable {K:Fr'} {mg:Str→Option Value} {glo:List (Str×D)} {exs:List (Str×Nat)} {cls:List (Nat×Str)} {kns:List Nat} {ce:Nat}
theorem cH7 {C:Nat→Addr}(hc:aI9 K C cls kns ce=true){ks ns:List Am}{c:Nat}{z:Str}(h:a8B ks ns (c,z)=true)(hm:(c,z)∈cls):LcD K C kns ks ns (C c) z:=by
 unfold aI9 at hc
 have q:=List.all_eq_true.mp hc _ hm
 simp only[Bool.and_eq_true,decide_eq_true_eq,List.all_eq_true]at q
 obtain⟨⟨⟨q1,q2⟩,q3⟩,q4⟩:=q
 unfold a8B at h
 rw[Bool.and_eq_true,decide_eq_true_eq]at h
 obtain⟨h1,h2⟩:=h
 refine⟨bW5 q1,q2,fun n=>n==c,fun n hn=>q4 n hn,h1,?_⟩
 cases hf:(ks.map (amV fun n=>n==c)).findIdx? (fun y=>eqV y (.bl true))with
 |none=>rw[hf]at h2;cases h2
 |some n=>
  rw[hf]at h2
  rw[Bool.and_eq_true]at h2
  refine⟨n,cH3 h2.1,fun m z' hmn hz=> ?_,cH5 h2.2⟩
  obtain⟨hn,_,hlt⟩:=List.findIdx?_eq_some_iff_getElem.mp hf
  have:=hlt m hmn
  have e:(ks.map (amV fun n=>n==c))[m]'(by omega)=z':=by
   have hz2:=hz
   rw[List.getElem?_eq_getElem (by omega)]at hz2
   exact Option.some.inj hz2
  rw[e]at this
  simpa using this
theorem cH9 (G:Glb K mg (cAd K exs) glo exs)(hv:mg "ValueError"=none)(hc:aI9 K (cAd K exs) cls kns ce=true){x fa ki na:Str}{params:Arguments}{body:List Stmt}{scope:Scope}{kws:List (Str×V)}{f:Addr}{fd:FuncData}(F:FunD K x x params body scope [] kws f fd)(hm:mg x=some (.ref f))(hs:scB [fa,ki,na] [fa] scope=true)
  (hb:Binds K fd [fa] []) (h1:a3s scope fa ki na=true) (h2:a8E scope exs kns fa ki na body cls=true) (hx:(x==("__debug__":Str))=false):aM4 K mg (cAd K exs) x (nmE cls):=by
 unfold a8E at h2
 split at h2
 ·rename_i ks ns hl
  simp only[Bool.and_eq_true,decide_eq_true_eq,List.all_eq_true]at h2
  obtain⟨⟨a1,a2⟩,a3⟩:=h2
  refine⟨f,fd,params,body,scope,kws,fa,ki,na,exs,kns,ks,ns,hm,F,(ax3 hs).1,hb,h1,hl,a1,a2,fun y n hl=> ?_,G.free _ (by decide),hv,hx,fun c z hcz=> ?_⟩
  ·obtain⟨_,_,_,_,z5,_⟩:=G.exs y n hl
   exact z5
  ·have hmem:=a8L hcz
   exact cH7 hc (a3 _ hmem) hmem
 ·cases h2
theorem cI0 (G:Glb K mg (cAd K exs) glo exs)(hc:aI9 K (cAd K exs) cls kns ce=true){x cn ee l0 n0 f0 c0 e0:Str}(hN:aM4 K mg (cAd K exs) cn (nmE cls)){params:Arguments}{body:List Stmt}{scope:Scope}{kws:List (Str×V)}{f:Addr}{fd:FuncData}(F:FunD K x x params body scope [] kws f fd)(hm:mg x=some (.ref f))(hs:scB [l0,n0,f0,c0,e0] [l0,n0] scope=true)
  (hb:Binds K fd [l0,n0] []) (h1:laB cn ee body=some [l0,n0,f0,c0,e0]) (h2:aW3 scope [l0,n0,f0,c0,e0] cn ee=true) (hee:exs.lookup ee=some ce) (hx:(x==("__debug__":Str))=false): ∀X:Cx,X.K=K→X.mg=mg→at8 X (cAd K exs) x (nmE cls):=by
 intro X hK hM
 subst hK hM
 refine⟨f,fd,params,body,scope,kws,l0,n0,f0,c0,e0,cn,ee,ce,hm,F,hb,(ax3 hs).1,h1,h2,G.free _ (by decide),?_,hN,fun c z hcz=> ?_,hx⟩
 ·obtain⟨_,_,_,_,z5,_⟩:=G.exs ee ce hee
  exact z5
 ·have hmem:=a8L hcz
  unfold aI9 at hc
  have q:=List.all_eq_true.mp hc _ hmem
  simp only[Bool.and_eq_true,decide_eq_true_eq]at q
  exact q.1.2
end
end Fz
namespace Fz
open PySem PySem.Spec L2
variable [aa0]
def aW4 (P:Program)(w:World)(K:Fr')(mg:Str→Option Value)(base:Heap)(C:Nat→Addr)(lv:Nat)(x:Str)(nd nf:Nat)(M:List (List D→R D)→List D→R D):Prop:=
 ∃  f:Addr,mg x=some (.ref f)∧PySem.W.keepIn K (.ref f)=true∧(x==("__debug__":Str))=false∧
    ∀(A:Around) (outer:List Env) (s:Shared) (H:Hp) (us:List Value) (vds:List V) (ds:List D) (gs:List Clo) (c:Nat) (Q:VK) (E:XK),Room (lv+1) A→Env0 P w K mg base A outer s H→LamX.Tabs aa0.T H→Vals (vds++gs.map fun g=>V.ref g.f) us→aa1 K H vds ds→
     ds.length=nd→gs.length=nf→(∀g∈gs,ag7 P w K mg base lv g∧g.ok H)→M (gs.map (·.m)) ds= .ex c→(∀H',Same H H'→E (.ref (C c)) none H')→codeAny (model P w) A (.call (.ref f) ⟨us,[]⟩) (CR (L2.CX P w) outer P w H s Q E) s
section
variable {P:Program} {w:World} {K:Fr'} {mg:Str→Option Value} {base:Heap} {C:Nat→Addr} {glo:List (Str×D)} {exs:List (Str×Nat)} {fns:List (Str×Nat)} {lv:Nat} {x q:Str} {params:Arguments} {body:List Stmt} {scope:Scope} {kws:List (Str×V)} {f:Addr} {fd:FuncData} {N ps:List Str} {irs:List S} {Fu:Nat} {trs:List (Nat×List Nat×List (Nat×Nat))}
theorem cI1 {x0:Str}{nd nf:Nat}{Φ:List (List D→R D)→Nat→List D→R D}(pw:P=aa0.P∧w=aa0.w)(ht: ∀t∈trs,aa4 K C t)(G:Glb K mg C glo exs)(hf: ∀ψ x f,fns.lookup x=some f→FnG P w K mg base C lv x (Φ ψ f))(hψ: ∀(ψ:List (List D→R D)) (j:Nat) (m:List D→R D),ψ.length=nf→ψ[j]? =some m→Φ ψ (9001+j)=m)
  (F:FunD K x0 q params body scope [] kws f fd) (hs:scB N ps scope=true) (h:css ⟨N,scope,stOf scope,fns,glo,exs,[],trs,[],true,[],[],[],[],[]⟩ irs body=true) (hm:mg x=some (.ref f)) (hb:Binds K fd ps []) (hx:(x==("__debug__":Str))=false) (hps:ps.length=nd+nf):
  aW4 P w K mg base C lv x nd nf (fun ψ=>a3m (Φ ψ) Fu N.length nd nf irs):=by
 obtain⟨oc,od,dV,kV,doc,pm,an,cdv,ct,osl,rfl,lk,hcd,_,_⟩:=F.ex
 obtain⟨S,hst⟩:=ax3 hs
 refine⟨f,hm,F.kp,hx,fun A outer s H us vds ds gs cE Q E hr e0 tb r rp hd hn hg hM hE=> ?_⟩
 have hc: ∀g∈gs,∀H H':Hp,Ex H H'→g.ok H→g.ok H':=fun g h=>(hg g h).1.mono
 have KX:K.In s.heap:=e0.mod.kin.keeps fun b o e=>(e0.bs b o e).1
 have hvl:(vds++gs.map fun g=>V.ref g.f).length=ps.length:=by rw[List.length_append,List.length_map,rp.length,hd,hn,hps]
 have hul:us.length=ps.length:=by rw[←r.length];exact hvl
 have b:=hb s us KX (by rw[List.append_nil];exact hul)
 rw[List.append_nil]at b
 refine LamX.run_ofS (k:=lv) (E:=E) lk hcd S hr e0 b r hvl fun hr'=> ?_
 letI inst:FnT:=fnT gs hc
 let X:Cx:=cxOf (L2.CX P w) P w K mg base N q scope f cdv A outer s H E
 have tk:Takes X (fun cls d _ H=>E cls d H):=takes_of rfl rfl rfl rfl
 have gd:ax2 X ⟨N,scope,stOf scope,fns,glo,exs,[],trs,[],true,[],[],[],[],[]⟩ C (Φ (gs.map (·.m))) (fun cls d _ H=>E cls d H):=by
  refine⟨⟨rfl,S.nd,rfl,rfl,fun x hx=>⟨hst x hx,.inl rfl⟩,hr'.units,G.free,fun x g hl=> ?_,G.glo,tk,pw,fun h=>absurd rfl h,fun _ _ h=>(by cases h),fun _=>⟨lv,hr',fun g H0 ho=> ?_⟩,fun _ _ h=>(by cases h),fun _ _ h=>(by cases h),fun _ _ h=>(by cases h),fun h=>absurd rfl h,fun _ h=>(by cases h)⟩,fun x k hl=> ?_,passes_of rfl,rfl,rfl,ht,fun _ _ h=>(by cases h)⟩
  ·obtain⟨k,f',fd',ps',hk,h1,h2,h3,h4,h5⟩:=hf (gs.map (·.m)) x g hl
   exact⟨k,f',fd',ps',h1,hr'.mono hk,h2,h3,h4,h5⟩
  ·obtain⟨h9,c,hc1,_⟩:=ho
   have hcm:c∈gs:=List.mem_of_getElem? hc1
   have ea:FnT.fa g=c.f:=by
        show((gs[g-9001]?).map (·.f)).getD 0=c.f
        rw[hc1];rfl
   have eo: ∀H,FnT.ok g H→c.ok H:=fun H ⟨_,c',h1,h2⟩=>by
        rw[hc1]at h1;cases h1;exact h2
   have eo': ∀H,c.ok H→FnT.ok g H:=fun H h2=>⟨h9,c,hc1,h2⟩
   have em:Φ (gs.map (·.m)) g=c.m:=by
        have:=hψ (gs.map (·.m)) (g-9001) c.m (by rw[List.length_map];exact hn) (by rw[List.getElem?_map,hc1];rfl)
        rw[show 9001+(g-9001)=g by omega]at this
        exact this
   have CRc:=(hg c hcm).1
   refine⟨fun H H' x z=>FnT.mono g H H' x z,?_,fun A outer s H us vs ds d Q E a1 a2 a3 a4 a5 a6 a7 a8=> ?_⟩
   ·    show(∀(A:Around) (outer:List Env) (s:Shared) (H:Hp),Env0 P w K mg base A outer s H→FnT.ok g H→PySem.W.FnAt (FnT.fa g) s.heap)∨PySem.W.keepIn K (.ref (FnT.fa g))=true
        rw[ea]
        rcases CRc.at_ with z|z
        ·exact .inl fun A outer s H a b=>z A outer s H a (eo H b)
        ·exact .inr z
   ·    show codeAny _ A (.call (.ref (FnT.fa g)) ⟨us,[]⟩) _ s
        rw[ea]
        have a7:Φ (gs.map (·.m)) g ds= .ok d:=a7
        rw[em]at a7
        exact CRc.run A outer s H us vs ds d Q E a1 a2 a3 (eo H a4) a5 a6 a7 a8
  ·obtain⟨z1,z2,z3,z4,z5,z6⟩:=G.exs x k hl
   exact⟨z1,z5,z2,z3,z4,z6⟩
 refine⟨_,az9 C (Φ (gs.map (·.m))) Fu irs gd body h,?_⟩
 refine⟨H,[],startF N.length ds nf,by rw[←hn];exact cy4 hc rp tb (fun g h=>(hg g h).2) N,by rw[an8];exact Same.refl _,?_⟩
 have hM:a3m (Φ (gs.map (·.m))) Fu N.length nd nf irs ds= .ex cE:=hM
 unfold a3m at hM
 rw[if_pos hd]at hM
 cases hx:xs (Φ (gs.map (·.m))) Fu irs (startF N.length ds nf)with
 |nx τ=>rw[hx]at hM;cases hM
 |rt d'=>rw[hx]at hM;cases hM
 |rf ys=>rw[hx]at hM;cases hM
 |ex c=>
  rw[hx]at hM
  cases hM
  exact fun σ H' s=>hE H' s
 |no=>rw[hx]at hM;cases hM
def mX (M:List (List D→R D)→List D→R D)(φ:List D→R D):List D→R D:=fun ds=>if ds.length=2 then(match M [fun ds=>(φ ds).calm] ds with
 | .ex c=> .ex c
 |_=> .no)else .no
def lxB (t g a b:Str):List Stmt→Bool
 | [.Return (some (.Call (.Name t1 _) [.Name a1 _,.Name b1 _,.Name g1 _] [] _)) _]=>t1==t&&a1==a&&b1==b&&g1==g
 |_=>false
def b0y (sc:Scope)(t g a b:Str):Bool:=decide (sc.names.lookup a=some .local)&&decide (sc.names.lookup b=some .local)&&decide (sc.names.lookup t=some .globalImplicit)&&decide (sc.names.lookup g=some .globalImplicit)&&
 ([a,b].all fun x=> !(x==("__debug__":Str))&& !(x==("__classdict__":Str)))&&([t,g].all fun x=> !(x==("__debug__":Str)))
theorem cI2 [FnT]{X:Cx}{W:WX}{t g a b:Str}{ft:Addr}{m:List D→R D}{M:List (List D→R D)→List D→R D}{gf:Addr}{p p1 p2 p3 pos:Pos}(tk:Takes X W)(hr:Room (lv+1) X.A)(hm:X.mg t=some (.ref ft))(hk:PySem.W.keepIn X.K (.ref ft)=true)(hd:(t==("__debug__":Str))=false)(hg:Gl X t)
  (HF: ∀(A:Around) (outer:List Env) (s:Shared) (H:Hp) (us:List Value) (vds:List V) (ds:List D) (gs:List Clo) (c:Nat) (Q:VK) (E:XK),Room (lv+1) A→Env0 X.prog X.w X.K X.mg X.base A outer s H→LamX.Tabs aa0.T H→Vals (vds++gs.map fun g=>V.ref g.f) us→aa1 X.K H vds ds→
   ds.length=2→gs.length=1→(∀g∈gs,ag7 X.prog X.w X.K X.mg X.base lv g∧g.ok H)→M (gs.map (·.m)) ds= .ex c→(∀H',Same H H'→E (.ref (C c)) none H')→codeAny (model X.prog X.w) A (.call (.ref ft) ⟨us,[]⟩) (CR (L2.CX X.prog X.w) outer X.prog X.w H s Q E) s)
  (sa:Slt X a 0) (sb:Slt X b 1) (gg:Gl X g) (gm:X.mg g=some (.ref gf)) (gd:(g==("__debug__":Str))=false) (gc:ag7 X.prog X.w X.K X.mg X.base lv ⟨gf,fun _=>True,m⟩):
  PE X (.Call (.Name t p) [.Name a p1,.Name b p2,.Name g p3] [] pos) (fun σ H _=> ∃v1 v2 d1 d2 c,σ[0]? =some (some v1)∧σ[1]? =some (some v2)∧aa1 X.K H [v1,v2] [d1,d2]∧LamX.Tabs aa0.T H∧M [m] [d1,d2]= .ex c∧ ∀H',Same H H'→W (.ref (C c)) none σ H'):=by
 refine⟨fun pins s σ H Q I hh=> ?_⟩
 obtain⟨v1,v2,d1,d2,c,h1,h2,rp,tb,hM,hE⟩:=hh
 refine wpAny_Call_Name_kw (ld_glob I hg hm ?_ hd)
 have pa:=pa_cons (sa.pe (p:=p1)) (pa_cons (sb.pe (p:=p2)) (pa_cons (pe_glob (pos:=p3) (v:= .ref gf) gg gm rfl gd) pa_nil rfl) rfl) rfl
 refine PySem.W.callWith_K (h₀:=X.base) I.ok.mod.kin hk (thn (pa.run pos pins s σ H (fun vs H1=>vs=[v1,v2,.ref gf]∧H1=H) I ⟨v1,h1,v2,h2,rfl,rfl⟩) fun us s1 ⟨vs,H1,I1,r,e1,e2⟩=>⟨I1.kIn,?_⟩) rfl rfl
 subst e1 e2
 have rc:=HF X.A X.stack s1 H1 us [v1,v2] [d1,d2] [⟨gf,fun _=>True,m⟩] c (fun _ _=>False) (fun cls d H'=>W cls d σ H') hr I1.env0 tb r rp rfl rfl (fun z hz=>by
  simp only[List.mem_singleton]at hz
  subst hz
  exact⟨gc,trivial⟩) hM hE
 refine wpAny_call (codeAny_mono rc fun res s' hq=> ?_)
 cases res with
 |error e=>exact passAt tk σ pins H1 s1 e s' I1 hq
 |ok fl=>
  cases fl with
  |ret u=>
   obtain⟨_,_,_,_,_,_,_,q⟩:=hq
   exact q.elim
  |next=>exact hq.elim
  |brk=>exact hq.elim
  |cont=>exact hq.elim
theorem b0B {x0 t g a b:Str}{M:List (List D→R D)→List D→R D}{m:List D→R D}(T:aW4 P w K mg base C lv t 2 1 M)(Fg:FnG P w K mg base C lv g m)(hgd:(g==("__debug__":Str))=false)
  (F:FunD K x0 q params body scope [] kws f fd) (hs:scB [a,b] [a,b] scope=true) (h:lxB t g a b body=true) (hsc:b0y scope t g a b=true) (hm:mg x=some (.ref f)) (hb:Binds K fd [a,b] []) (hx:(x==("__debug__":Str))=false):
  FnG P w K mg base C (lv+2) x (mX M m):=by
 obtain⟨ft,t1,t2,t3,HF⟩:=T
 obtain⟨gf,g1,g2,g3⟩:=bP2 Fg
 refine⟨lv+2,f,fd,[a,b],Nat.le_refl _,FunD.ok F (ax3 hs).1 (fun vs H Q E hsp=> ?_) (fun cdv A outer s H vs Q E hr hsp=> ?_),hm,F.kp,hb,hx⟩
 ·obtain⟨ds,r,_,z⟩:=hsp
  rw[r.length]
  by_cases hl:ds.length=2
  ·exact hl
  ·unfold mX at z
   rw[if_neg hl]at z
   exact z.elim
 ·obtain⟨ds,r,tb,z⟩:=hsp
  have tk:Takes (cxOf (L2.CX P w) P w K mg base [a,b] q scope f cdv A outer s H E) (fun cls d _ H=>E cls d H):=takes_of rfl rfl rfl rfl
  letI:FnT:=⟨fun _=>0,fun _ _=>False,fun _ _ _ _ h=>h,fun _=>True⟩
  unfold lxB at h
  split at h
  ·rename_i t1' p a1 p1 b1 p2 g1' p3 pos pos2
   simp only[Bool.and_eq_true,beq_iff_eq]at h
   obtain⟨⟨⟨rfl,rfl⟩,rfl⟩,rfl⟩:=h
   simp only[b0y,Bool.and_eq_true,decide_eq_true_eq,List.all_cons,List.all_nil,Bool.not_eq_true']at hsc
   obtain⟨⟨⟨⟨⟨s1,s2⟩,s3⟩,s4⟩,s5⟩,s6⟩:=hsc
   have hl:ds.length=2:=by
        by_cases hl:ds.length=2
        ·exact hl
        ·unfold mX at z
         rw[if_neg hl]at z
         exact z.elim
   have hv:vs.length=2:=by rw[r.length];exact hl
   match vs,ds,r,hl,hv,z with
   |    [v1,v2],[d1,d2],r,_,_,z=>
        unfold mX at z
        simp only[List.length_cons,List.length_nil,if_true]at z
        cases hM:M [fun ds=>(m ds).calm] [d1,d2]with
        |ok d=>rw[hM]at z;exact z.elim
        |no=>rw[hM]at z;exact z.elim
        |ex c=>
         rw[hM]at z
         have hne: ∀y∈[a1,b1],(y==("__debug__":Str))=false∧(y==("__classdict__":Str))=false:=fun y hy=>by
          rcases List.mem_cons.mp hy with rfl|hy
          ·exact s5.1
          ·rcases List.mem_cons.mp hy with rfl|hy
           ·exact s5.2.1
           ·cases hy
         refine⟨_,pss_cons (ps_ret (cI2 (W:=fun cls d _ H=>E cls d H) (gf:=gf) (m:=fun ds=>(m ds).calm) tk hr t1 t2 t3 s3 HF ⟨rfl,.inl s1,(hne _ (by simp)).1,(hne _ (by simp)).2⟩ ⟨rfl,.inl s2,(hne _ (by simp)).1,(hne _ (by simp)).2⟩ s4 g1 hgd g3)) pss_nil,?_⟩
         exact⟨v1,v2,d1,d2,c,rfl,rfl,r,tb,hM,z⟩
  ·cases h
end
end Fz
set_option maxHeartbeats 0
namespace Lw
open PySem PySem.Spec L2 Fz
def Fu:Nat:=1000000000
def cI4:D:= .int 3
def cI7:D:= .str "abcdefghijklmnopqrstuvwxyz"
def a8M:List Str:=["candidate","letter"]
def b0C:List Str:=["candidate"]
def b0D:List S:=[
 .ife (.or [.u .nt (.u .isStr (.var 0)),.u .nt (.chain .le .le (.cst (.int 1)) (.u .len (.var 0)) (.cst cI4))]) [
    .ret (.cst (.bool false))] [],
 .ret (.u .all (.comp (.one 1) (.var 0) (.cst (.bool true)) (.b .mem (.var 1) (.cst cI7))))]
def b0H:Nat→List D→R D:=fun f=>fun _=> .no
def aN2:List D→R D:=run b0H Fu 2 1 b0D
def a8N:List Str:=["candidate","one","other","word"]
def b0K:List Str:=["candidate"]
def b0L:List S:=[
 .ife (.or [.u .nt (.u .isTup (.var 0)),.u .nt (.u .all (.comp (.one 3) (.var 0) (.cst (.bool true)) (.call 0 [.var 3])))]) [
    .ret (.cst (.bool false))] [],
 .ret (.u .all (.comp (.tup [1,2]) (.b .zip (.var 0) (.b .from (.var 0) (.cst (.int 1)))) (.cst (.bool true)) (.b .lt (.var 1) (.var 2))))]
def a8O:Nat→List D→R D:=fun f=>if f=0 then aN2 else fun _=> .no
def aB0:List D→R D:=run a8O Fu 4 1 b0L
@[simp] theorem c9W:a8O 0=aN2:=rfl
def a8P:List Str:=["script","k","many","cell","drawn","rest","again"]
def b0M:List Str:=["script","k","many"]
def a8R:List S:=[
 .set (.one 3) (.ite (.b .ne (.var 0) (.lst [])) (.b .ix (.var 0) (.b .mod (.u .int (.var 1)) (.u .len (.var 0)))) (.cst (.int 0))),
 .par [(5,false,.b .fdiv (.var 3) (.b .pow (.cst (.int 10)) (.cst (.int 18)))),(6,false,.b .fdiv (.var 1) (.b .max2 (.u .len (.var 0)) (.cst (.int 1))))],
 .whl (.and [.b .gt (.var 5) (.cst (.int 0)),.b .gt (.var 6) (.cst (.int 0))]) [
    .par [(5,false,.b .fdiv (.var 5) (.cst (.int 840))),(6,false,.b .sub (.var 6) (.cst (.int 1)))]],
 .ife (.b .gt (.var 5) (.cst (.int 0))) [
    .ret (.b .mod (.u .int (.b .mod (.u .int (.var 5)) (.cst (.int 840)))) (.var 2))] [],
 .set (.one 4) (.b .mod (.u .int (.b .mul (.b .add (.b .mul (.var 3) (.cst (.int 31))) (.b .mul (.cst (.int 6151)) (.b .add (.var 1) (.cst (.int 1))))) (.cst (.int 40692)))) (.cst (.int 2147483399))),
 .ret (.b .mod (.u .int (.b .mod (.u .int (.b .add (.b .mul (.var 4) (.var 4)) (.b .fdiv (.var 4) (.cst (.int 31))))) (.cst (.int 2147483629)))) (.var 2))]
def aW5:Nat→List D→R D:=fun f=>fun _=> .no
def ax5:List D→R D:=run aW5 Fu 7 3 a8R
def a8S:List Str:=["value"]
def b0Q:List Str:=["value"]
def b0R:List S:=[
 .ife (.u .nt (.call 1 [.var 0])) [
    .raise 1] []]
def a8U:Nat→List D→R D:=fun f=>if f=1 then aB0 else fun _=> .no
def al1:List D→R D:=run a8U Fu 1 1 b0R
@[simp] theorem c9X:a8U 1=aB0:=rfl
def b0S:D:= .tuple [(.str "all"),(.str "shared"),(.str "least"),(.str "greatest"),(.str "agreed")]
def a8V:D:= .tuple [(.str "least"),(.str "greatest"),(.str "agreed")]
def a8W:List Str:=["one","other","word"]
def b0U:List Str:=["one","other"]
def b0V:List S:=[
 .ret (.u .any (.comp (.one 2) (.var 0) (.cst (.bool true)) (.b .mem (.var 2) (.var 1))))]
def b0W:Nat→List D→R D:=fun f=>fun _=> .no
def aW9:List D→R D:=run b0W Fu 3 2 b0V
def a8Y:List Str:=["one","other","letters","word"]
def b0X:List Str:=["one","other"]
def b0Y:List S:=[
 .set (.one 2) (.comp (.one 3) (.var 1) (.cst (.bool true)) (.b .ix (.var 3) (.cst (.int 0)))),
 .ret (.u .any (.comp (.one 3) (.var 0) (.cst (.bool true)) (.b .mem (.b .ix (.var 3) (.cst (.int 0))) (.var 2))))]
def b0Z:Nat→List D→R D:=fun f=>fun _=> .no
def aX0:List D→R D:=run b0Z Fu 4 2 b0Y
def cI9:D:= .str "same"
def b00:D:= .str "near"
def cJ0:D:= .str "unlike"
def cJ1:D:= .str "both"
def a8Z:List Str:=["condition","one","other"]
def b02:List Str:=["condition","one","other"]
def b06:List S:=[
 .ife (.b .eq (.var 0) (.cst cI9)) [
    .ret (.call 8 [.var 1,.var 2])] [],
 .ife (.b .eq (.var 0) (.cst b00)) [
    .ret (.call 9 [.var 1,.var 2])] [],
 .ife (.or [.b .eq (.var 1) (.tup []),.b .eq (.var 2) (.tup [])]) [
    .ret (.cst (.bool false))] [],
 .ife (.b .eq (.var 0) (.cst cJ0)) [
    .ret (.u .nt (.call 8 [.var 1,.var 2]))] [],
 .ret (.or [.b .eq (.var 0) (.cst cJ1),.u .nt (.call 9 [.var 1,.var 2])])]
def a3C:Nat→List D→R D:=fun f=>if f=8 then aW9 else if f=9 then aX0 else fun _=> .no
def aB3:List D→R D:=run a3C Fu 3 3 b06
@[simp] theorem c9Y:a3C 8=aW9:=rfl
@[simp] theorem c9Z:a3C 9=aX0:=rfl
def b07:D:= .tuple [(.str "same"),(.str "near"),(.str "unlike"),(.str "far"),(.str "both")]
def a80:List Str:=["condition","one","other"]
def b1c:List Str:=["condition","one","other"]
def b1e:List S:=[
 .ife (.or [.u .nt (.u .isStr (.var 0)),.b .nmem (.var 0) (.cst b07)]) [
    .raise 2] [],
 .ex (.call 6 [.var 1]),
 .ex (.call 6 [.var 2]),
 .ret (.call 10 [.var 0,.var 1,.var 2])]
def a3D:Nat→List D→R D:=fun f=>if f=6 then al1 else if f=10 then aB3 else fun _=> .no
def aX2:List D→R D:=run a3D Fu 3 3 b1e
@[simp] theorem c90:a3D 6=al1:=rfl
@[simp] theorem c91:a3D 10=aB3:=rfl
def a81:List Str:=["values","one","other"]
def b1f:List Str:=["values"]
def b1i:List S:=[
 .ret (.u .all (.comp (.tup [1,2]) (.b .zip (.var 0) (.b .from (.var 0) (.cst (.int 1)))) (.cst (.bool true)) (.b .lt (.var 1) (.var 2))))]
def b1l:Nat→List D→R D:=fun f=>fun _=> .no
def al7:List D→R D:=run b1l Fu 3 1 b1i
def a82:List Str:=["value","least","most"]
def b1n:List Str:=["value","least","most"]
def b1o:List S:=[
 .ret (.and [.u .isInt (.var 0),.u .nt (.u .isBool (.var 0)),.chain .le .le (.var 1) (.var 0) (.var 2)])]
def b1p:Nat→List D→R D:=fun f=>fun _=> .no
def ah8:List D→R D:=run b1p Fu 3 3 b1o
def cJ2:D:= .str "far"
def a83:List Str:=["kinds","value","field","condition"]
def b1q:List Str:=["kinds","value"]
def b1r:List S:=[
 .ife (.or [.u .nt (.u .isTup (.var 1)),.b .ne (.u .len (.var 1)) (.cst (.int 2)),.u .nt (.call 17 [.b .ix (.var 1) (.cst (.int 0)),.cst (.int 0),.b .sub (.u .len (.var 0)) (.cst (.int 1))])]) [
    .ret (.cst (.bool false))] [],
 .set (.tup [2,3]) (.var 1),
 .ife (.or [.u .nt (.u .isStr (.var 3)),.b .nmem (.var 3) (.cst b07)]) [
    .ret (.cst (.bool false))] [],
 .ret (.or [.b .nmem (.var 3) (.tup [.cst b00,.cst cJ2]),.b .mem (.b .ix (.var 0) (.var 2)) (.cst a8V)])]
def a86:Nat→List D→R D:=fun f=>if f=17 then ah8 else fun _=> .no
def aX3:List D→R D:=run a86 Fu 4 2 b1r
@[simp] theorem c92:a86 17=ah8:=rfl
def cJ4:D:= .int 3
def a87:List Str:=["kinds","value","least","test"]
def b1s:List Str:=["kinds","value","least"]
def b1t:List S:=[
 .ife (.or [.u .nt (.u .isTup (.var 1)),.u .nt (.chain .le .le (.var 2) (.u .len (.var 1)) (.cst cJ4))]) [
    .ret (.cst (.bool false))] [],
 .ret (.and [.u .all (.comp (.one 3) (.var 1) (.cst (.bool true)) (.call 18 [.var 0,.var 3])),.call 16 [.var 1]])]
def a3E:Nat→List D→R D:=fun f=>if f=16 then al7 else if f=18 then aX3 else fun _=> .no
def aX4:List D→R D:=run a3E Fu 4 3 b1t
@[simp] theorem c94:a3E 16=al7:=rfl
@[simp] theorem c97:a3E 18=aX3:=rfl
def b1v:D:= .int 3
def a9a:List Str:=["value","kind"]
def b1x:List Str:=["value"]
def b1y:List S:=[
 .ife (.or [.u .nt (.u .isTup (.var 0)),.u .nt (.chain .le .le (.cst (.int 1)) (.u .len (.var 0)) (.cst b1v))]) [
    .ret (.cst (.bool false))] [],
 .ret (.u .all (.comp (.one 1) (.var 0) (.cst (.bool true)) (.and [.u .isStr (.var 1),.b .mem (.var 1) (.cst b0S)])))]
def b1z:Nat→List D→R D:=fun f=>fun _=> .no
def aY0:List D→R D:=run b1z Fu 2 1 b1y
def cJ6:D:= .int 3
def a9b:List Str:=["candidate","kinds","rules","bars","rule"]
def b1B:List Str:=["candidate"]
def b1C:List S:=[
 .ife (.or [.u .nt (.u .isTup (.var 0)),.b .ne (.u .len (.var 0)) (.cst (.int 3)),.u .nt (.call 20 [.b .ix (.var 0) (.cst (.int 0))])]) [
    .ret (.cst (.bool false))] [],
 .set (.tup [1,2,3]) (.var 0),
 .ife (.or [.u .nt (.u .isTup (.var 2)),.u .nt (.chain .le .le (.cst (.int 1)) (.u .len (.var 2)) (.cst cJ6))]) [
    .ret (.cst (.bool false))] [],
 .ife (.or [.u .nt (.u .all (.comp (.one 4) (.var 2) (.cst (.bool true)) (.call 19 [.var 1,.var 4,.cst (.int 1)]))),.u .nt (.call 16 [.var 2])]) [
    .ret (.cst (.bool false))] [],
 .ret (.call 19 [.var 1,.var 3,.cst (.int 0)])]
def aY1:Nat→List D→R D:=fun f=>if f=19 then aX4 else if f=20 then aY0 else if f=16 then al7 else fun _=> .no
def aY3:List D→R D:=run aY1 Fu 5 1 b1C
@[simp] theorem c99:aY1 19=aX4:=rfl
@[simp] theorem da1:aY1 20=aY0:=rfl
@[simp] theorem da4:aY1 16=al7:=rfl
def a9d:List Str:=["value"]
def b1E:List Str:=["value"]
def b1I:List S:=[
 .ife (.u .nt (.call 21 [.var 0])) [
    .raise 4] []]
def a9e:Nat→List D→R D:=fun f=>if f=21 then aY3 else fun _=> .no
def aa5:List D→R D:=run a9e Fu 1 1 b1I
@[simp] theorem da5:a9e 21=aY3:=rfl
def a9f:List Str:=["plan","value","content","kind"]
def b1K:List Str:=["plan","value"]
def b1L:List S:=[
 .ife (.or [.u .nt (.u .isTup (.var 1)),.b .ne (.u .len (.var 1)) (.u .len (.b .ix (.var 0) (.cst (.int 0))))]) [
    .ret (.cst (.bool false))] [],
 .ife (.u .nt (.u .all (.comp (.one 2) (.var 1) (.cst (.bool true)) (.call 1 [.var 2])))) [
    .ret (.cst (.bool false))] [],
 .ret (.u .all (.comp (.tup [3,2]) (.b .zip (.b .ix (.var 0) (.cst (.int 0))) (.var 1)) (.cst (.bool true)) (.or [.b .nmem (.var 3) (.cst a8V),.b .le (.u .len (.var 2)) (.cst (.int 1))])))]
def a9j:Nat→List D→R D:=fun f=>if f=1 then aB0 else fun _=> .no
def aq0:List D→R D:=run a9j Fu 4 2 b1L
@[simp] theorem da7:a9j 1=aB0:=rfl
def cJ8:D:= .int 8
def a9l:List Str:=["plan","value","entry"]
def b1M:List Str:=["plan","value"]
def b1O:List S:=[
 .ife (.or [.u .nt (.u .isTup (.var 1)),.b .gt (.u .len (.var 1)) (.cst cJ8)]) [
    .ret (.cst (.bool false))] [],
 .ret (.and [.u .all (.comp (.one 2) (.var 1) (.cst (.bool true)) (.call 23 [.var 0,.var 2])),.b .eq (.u .lst (.var 1)) (.u .sorted (.var 1))])]
def a9m:Nat→List D→R D:=fun f=>if f=23 then aq0 else fun _=> .no
def aB4:List D→R D:=run a9m Fu 3 2 b1O
@[simp] theorem da8:a9m 23=aq0:=rfl
def a9o:List Str:=["plan","value"]
def b1Q:List Str:=["plan","value"]
def b1S:List S:=[
 .ife (.u .nt (.call 24 [.var 0,.var 1])) [
    .raise 6] []]
def a9p:Nat→List D→R D:=fun f=>if f=24 then aB4 else fun _=> .no
def at9:List D→R D:=run a9p Fu 2 2 b1S
@[simp] theorem da9:a9p 24=aB4:=rfl
def a9r:List Str:=["test","one","other","field","condition"]
def b1T:List Str:=["test","one","other"]
def b1U:List S:=[
 .set (.tup [3,4]) (.var 0),
 .ret (.call 10 [.var 4,.b .ix (.var 1) (.var 3),.b .ix (.var 2) (.var 3)])]
def a9s:Nat→List D→R D:=fun f=>if f=10 then aB3 else fun _=> .no
def aB7:List D→R D:=run a9s Fu 5 3 b1U
@[simp] theorem db0:a9s 10=aB3:=rfl
def a9u:List Str:=["plan","one","other","number","rule","test"]
def b1V:List Str:=["plan","one","other"]
def b1Z:List S:=[
 .ret (.comp (.tup [3,4]) (.u .enm (.b .ix (.var 0) (.cst (.int 1)))) (.u .all (.comp (.one 5) (.var 4) (.cst (.bool true)) (.call 26 [.var 5,.var 1,.var 2]))) (.var 3))]
def a9v:Nat→List D→R D:=fun f=>if f=26 then aB7 else fun _=> .no
def aB8:List D→R D:=run a9v Fu 6 3 b1Z
@[simp] theorem db1:a9v 26=aB7:=rfl
def a9x:List Str:=["plan","one","other","test"]
def b11:List Str:=["plan","one","other"]
def b12:List S:=[
 .ret (.comp (.one 3) (.b .ix (.var 0) (.cst (.int 2))) (.call 26 [.var 3,.var 1,.var 2]) (.var 3))]
def a9B:Nat→List D→R D:=fun f=>if f=26 then aB7 else fun _=> .no
def aB9:List D→R D:=run a9B Fu 4 3 b12
@[simp] theorem db2:a9B 26=aB7:=rfl
def a9C:List Str:=["plan","one","other"]
def b15:List Str:=["plan","one","other"]
def b17:List S:=[
 .ret (.and [.b .ne (.call 27 [.var 0,.var 1,.var 2]) (.lst []),.b .eq (.call 28 [.var 0,.var 1,.var 2]) (.lst [])])]
def a3F:Nat→List D→R D:=fun f=>if f=27 then aB8 else if f=28 then aB9 else fun _=> .no
def aC0:List D→R D:=run a3F Fu 3 3 b17
@[simp] theorem db3:a3F 27=aB8:=rfl
@[simp] theorem db4:a3F 28=aB9:=rfl
def a9D:List Str:=["plan","value"]
def b18:List Str:=["plan","value"]
def b2a:List S:=[
 .ife (.u .nt (.call 23 [.var 0,.var 1])) [
    .raise 5] []]
def a9F:Nat→List D→R D:=fun f=>if f=23 then aq0 else fun _=> .no
def af8:List D→R D:=run a9F Fu 2 2 b2a
@[simp] theorem db6:a9F 23=aq0:=rfl
def a9G:List Str:=["plan","one","other"]
def b2b:List Str:=["plan","one","other"]
def b2c:List S:=[
 .ex (.call 22 [.var 0]),
 .ex (.call 32 [.var 0,.var 1]),
 .ex (.call 32 [.var 0,.var 2])]
def a3H:Nat→List D→R D:=fun f=>if f=22 then aa5 else if f=32 then af8 else fun _=> .no
def ai2:List D→R D:=run a3H Fu 3 3 b2c
@[simp] theorem dc0:a3H 22=aa5:=rfl
@[simp] theorem dc2:a3H 32=af8:=rfl
def a9I:List Str:=["plan","one","other"]
def b2d:List Str:=["plan","one","other"]
def b2e:List S:=[
 .ex (.call 33 [.var 0,.var 1,.var 2]),
 .ret (.call 28 [.var 0,.var 1,.var 2])]
def a3J:Nat→List D→R D:=fun f=>if f=33 then ai2 else if f=28 then aB9 else fun _=> .no
def aY4:List D→R D:=run a3J Fu 3 3 b2e
@[simp] theorem dc4:a3J 33=ai2:=rfl
@[simp] theorem dc7:a3J 28=aB9:=rfl
def a9J:List Str:=["plan","one","other"]
def b2h:List Str:=["plan","one","other"]
def b2j:List S:=[
 .ex (.call 33 [.var 0,.var 1,.var 2]),
 .ret (.call 27 [.var 0,.var 1,.var 2])]
def a3L:Nat→List D→R D:=fun f=>if f=33 then ai2 else if f=27 then aB8 else fun _=> .no
def aY5:List D→R D:=run a3L Fu 3 3 b2j
@[simp] theorem dd0:a3L 33=ai2:=rfl
@[simp] theorem dd5:a3L 27=aB8:=rfl
def a9L:List Str:=["plan","one","other"]
def b2m:List Str:=["plan","one","other"]
def b2n:List S:=[
 .ex (.call 33 [.var 0,.var 1,.var 2]),
 .ret (.call 29 [.var 0,.var 1,.var 2])]
def a3R:Nat→List D→R D:=fun f=>if f=33 then ai2 else if f=29 then aC0 else fun _=> .no
def aY7:List D→R D:=run a3R Fu 3 3 b2n
@[simp] theorem dd6:a3R 33=ai2:=rfl
@[simp] theorem dd7:a3R 29=aC0:=rfl
end Lw
namespace Lw
open PySem PySem.Spec L2 Fz
def cK0:D:= .str "word"
def cK1:D:= .str "letter"
def a9M:List Str:=["plan","value"]
def b2o:List Str:=["plan","value"]
def b2p:List S:=[
 .ife (.or [.u .nt (.u .isTup (.var 1)),.b .ne (.u .len (.var 1)) (.cst (.int 2)),.u .nt (.call 17 [.b .ix (.var 1) (.cst (.int 0)),.cst (.int 0),.b .sub (.u .len (.b .ix (.var 0) (.cst (.int 0)))) (.cst (.int 1))])]) [
    .ret (.cst (.bool false))] [],
 .ret (.and [.u .isStr (.b .ix (.var 1) (.cst (.int 1))),.b .mem (.b .ix (.var 1) (.cst (.int 1))) (.tup [.cst cK0,.cst cK1])])]
def a9N:Nat→List D→R D:=fun f=>if f=17 then ah8 else fun _=> .no
def aY9:List D→R D:=run a9N Fu 2 2 b2p
@[simp] theorem de0:a9N 17=ah8:=rfl
def a9O:List Str:=["plan","value","part"]
def b2r:List Str:=["plan","value"]
def b2t:List S:=[
 .ife (.or [.u .nt (.u .isTup (.var 1)),.u .nt (.chain .le .le (.cst (.int 1)) (.u .len (.var 1)) (.cst b1v))]) [
    .ret (.cst (.bool false))] [],
 .ret (.and [.u .all (.comp (.one 2) (.var 1) (.cst (.bool true)) (.call 40 [.var 0,.var 2])),.call 16 [.comp (.one 2) (.var 1) (.cst (.bool true)) (.b .ix (.var 2) (.cst (.int 0)))]])]
def a3S:Nat→List D→R D:=fun f=>if f=16 then al7 else if f=40 then aY9 else fun _=> .no
def aq2:List D→R D:=run a3S Fu 3 2 b2t
@[simp] theorem de5:a3S 16=al7:=rfl
@[simp] theorem de7:a3S 40=aY9:=rfl
def cK2:D:= .int 6
def a9Q:List Str:=["plan","value","key"]
def b2v:List Str:=["plan","value"]
def b2w:List S:=[
 .ife (.or [.u .nt (.u .isTup (.var 1)),.b .gt (.u .len (.var 1)) (.cst cK2)]) [
    .ret (.cst (.bool false))] [],
 .ret (.and [.u .all (.comp (.one 2) (.var 1) (.cst (.bool true)) (.call 41 [.var 0,.var 2])),.call 16 [.var 1]])]
def a3T:Nat→List D→R D:=fun f=>if f=16 then al7 else if f=41 then aq2 else fun _=> .no
def aC3:List D→R D:=run a3T Fu 3 2 b2w
@[simp] theorem de8:a3T 16=al7:=rfl
@[simp] theorem df0:a3T 41=aq2:=rfl
def a9R:List Str:=["plan","candidate"]
def b2x:List Str:=["plan","candidate"]
def b2E:List S:=[
 .ex (.call 22 [.var 0]),
 .ret (.call 42 [.var 0,.var 1])]
def a3U:Nat→List D→R D:=fun f=>if f=22 then aa5 else if f=42 then aC3 else fun _=> .no
def aZ1:List D→R D:=run a3U Fu 2 2 b2E
@[simp] theorem df2:a3U 22=aa5:=rfl
@[simp] theorem df4:a3U 42=aC3:=rfl
def a9S:List Str:=["plan","candidate"]
def b2F:List Str:=["plan","candidate"]
def b2J:List S:=[
 .ex (.call 22 [.var 0]),
 .ret (.call 41 [.var 0,.var 1])]
def a4b:Nat→List D→R D:=fun f=>if f=22 then aa5 else if f=41 then aq2 else fun _=> .no
def aZ2:List D→R D:=run a4b Fu 2 2 b2J
@[simp] theorem df5:a4b 22=aa5:=rfl
@[simp] theorem df6:a4b 41=aq2:=rfl
def a9T:List Str:=["plan","value"]
def b2K:List Str:=["plan","value"]
def b2L:List S:=[
 .ife (.u .nt (.call 41 [.var 0,.var 1])) [
    .raise 7] []]
def a9U:Nat→List D→R D:=fun f=>if f=41 then aq2 else fun _=> .no
def aZ5:List D→R D:=run a9U Fu 2 2 b2L
@[simp] theorem df7:a9U 41=aq2:=rfl
def a9V:List Str:=["plan","value"]
def b2M:List Str:=["plan","value"]
def b2O:List S:=[
 .ife (.u .nt (.call 42 [.var 0,.var 1])) [
    .raise 8] []]
def a9Z:Nat→List D→R D:=fun f=>if f=42 then aC3 else fun _=> .no
def af6:List D→R D:=run a9Z Fu 2 2 b2O
@[simp] theorem df8:a9Z 42=aC3:=rfl
end Lw
namespace Lw
open PySem PySem.Spec L2 Fz
def a90:List Str:=["plan","one","other"]
def b2P:List Str:=["plan","one","other"]
def b2Q:List S:=[
 .ife (.u .nt (.call 29 [.var 0,.var 1,.var 2])) [
    .raise 10] []]
def a91:Nat→List D→R D:=fun f=>if f=29 then aC0 else fun _=> .no
def aq4:List D→R D:=run a91 Fu 3 3 b2Q
@[simp] theorem dg0:a91 29=aC0:=rfl
def a92:List Str:=["book","value"]
def b2S:List Str:=["book","value"]
def b2T:List S:=[
 .ife (.u .nt (.call 17 [.var 1,.cst (.int 0),.b .sub (.u .len (.var 0)) (.cst (.int 1))])) [
    .raise 9] []]
def a94:Nat→List D→R D:=fun f=>if f=17 then ah8 else fun _=> .no
def aZ9:List D→R D:=run a94 Fu 2 2 b2T
@[simp] theorem dg1:a94 17=ah8:=rfl
end Lw
namespace Lw
open PySem PySem.Spec L2 Fz
def a96:List Str:=["plan","candidate"]
def b2U:List Str:=["plan","candidate"]
def b2V:List S:=[
 .ex (.call 22 [.var 0]),
 .ret (.call 24 [.var 0,.var 1])]
def a4c:Nat→List D→R D:=fun f=>if f=22 then aa5 else if f=24 then aB4 else fun _=> .no
def a0c:List D→R D:=run a4c Fu 2 2 b2V
@[simp] theorem dg2:a4c 22=aa5:=rfl
@[simp] theorem dg7:a4c 24=aB4:=rfl
end Lw
namespace Lw
open PySem PySem.Spec L2 Fz
def cK3:D:= .int 12
def cK4:D:= .int 60
end Lw
namespace Lw
open PySem PySem.Spec L2 Fz
def a97:List Str:=["kind","one","other","content"]
def b2X:List Str:=["kind","one","other"]
def b21:List S:=[
 .ife (.or [.u .nt (.u .isStr (.var 0)),.b .nmem (.var 0) (.cst b0S)]) [
    .raise 3] [],
 .for_ (.one 3) (.tup [.var 1,.var 2]) [
    .ex (.call 6 [.var 3]),
    .ife (.and [.b .mem (.var 0) (.cst a8V),.b .gt (.u .len (.var 3)) (.cst (.int 1))]) [
     .raise 1] []],
 .top]
def ba0:Nat→List D→R D:=fun f=>if f=6 then al1 else fun _=> .no
def a0e:List D→R D:=run ba0 Fu 4 3 b21
@[simp] theorem dh2:ba0 6=al1:=rfl
def ba1:List Str:=["plan","words","most"]
def b22:List Str:=["plan","words","most"]
def b23:List S:=[
 .ex (.call 6 [.var 1]),
 .top,
 .top]
def ba3:Nat→List D→R D:=fun f=>if f=6 then al1 else fun _=> .no
def aC5:List D→R D:=run ba3 Fu 3 3 b23
@[simp] theorem dh3:ba3 6=al1:=rfl
def ba6:List Str:=["plan","words","known"]
def b24:List Str:=["plan","words"]
def b25:List S:=[
 .ex (.call 22 [.var 0]),
 .set (.one 2) (.call 427 [.var 0,.var 1,.cst cK3]),
 .top,
 .ret (.cst .none)]
def a4d:Nat→List D→R D:=fun f=>if f=22 then aa5 else if f=427 then aC5 else fun _=> .no
def a0h:List D→R D:=run a4d Fu 3 2 b25
@[simp] theorem dh4:a4d 22=aa5:=rfl
@[simp] theorem dh5:a4d 427=aC5:=rfl
def ba8:List Str:=["plan","keys","words","known"]
def b26:List Str:=["plan","keys","words"]
def b27:List S:=[
 .ex (.call 22 [.var 0]),
 .ex (.call 53 [.var 0,.var 1]),
 .set (.one 3) (.call 427 [.var 0,.var 2,.cst cK4]),
 .top,
 .ret (.cst .none)]
def a0i:Nat→List D→R D:=fun f=>if f=22 then aa5 else if f=53 then af6 else if f=427 then aC5 else fun _=> .no
def aC9:List D→R D:=run a0i Fu 4 3 b27
@[simp] theorem dh8:a0i 22=aa5:=rfl
@[simp] theorem di0:a0i 53=af6:=rfl
@[simp] theorem di3:a0i 427=aC5:=rfl
def bb0:List Str:=["plan","words"]
def b3a:List Str:=["plan","words"]
def b3c:List S:=[
 .ex (.call 22 [.var 0]),
 .ex (.call 6 [.var 1]),
 .top,
 .top]
def a4f:Nat→List D→R D:=fun f=>if f=22 then aa5 else if f=6 then al1 else fun _=> .no
def a0k:List D→R D:=run a4f Fu 2 2 b3c
@[simp] theorem di6:a4f 22=aa5:=rfl
@[simp] theorem di7:a4f 6=al1:=rfl
def aN3:List Str:=["plan","bad","fine","off","book","key","calls"]
def b3e:List Str:=["plan","bad","fine","off","book","key"]
def au1:List (Nat×Str):=[(1,"InvalidContent"),(2,"InvalidCondition"),(3,"InvalidKind"),(4,"InvalidPlan"),(5,"InvalidEntry"),(6,"InvalidBook"),(9,"InvalidPlace"),(17,"InvalidNumber"),(20,"InvalidTest"),(7,"InvalidKey"),(8,"InvalidKeys"),(10,"NoMatch"),(11,"TooLarge"),(21,"ParseError")]
def aH9:Nat→List D→R D:=fun f=>if f=11 then aX2 else if f=426 then a0e else if f=428 then a0h else if f=429 then aC9 else if f=430 then a0k else fun _=> .no
@[simp] theorem dj0:aH9 11=aX2:=rfl
@[simp] theorem dj2:aH9 426=a0e:=rfl
@[simp] theorem dj3:aH9 428=a0h:=rfl
@[simp] theorem dj5:aH9 429=aC9:=rfl
@[simp] theorem dj6:aH9 430=a0k:=rfl
def bb1:List LBk:=[⟨.call 11 [.cst (.str "some"),.cst .none,.cst .none],[],"InvalidCondition"⟩,
 ⟨.call 11 [.cst (.str "same"),.cst .none,.tup []],[.call 11 [.cst (.str "same"),.tup [],.lst [.cst (.str "a")]],.call 426 [.cst (.str "least"),.tup [],.tup [.cst (.str "a"),.cst (.str "b")]],.call 428 [.var 0,.cst .none],.call 429 [.var 0,.tup [],.lst [.cst (.str "a")]],.call 430 [.var 0,.cst .none]],"InvalidContent"⟩,
 ⟨.call 426 [.cst .none,.cst (.int 1),.cst (.int 1)],[.call 426 [.cst (.str "any"),.tup [],.tup []]],"InvalidKind"⟩]
def a4k:List D→R D:=bkM aH9 (nmE au1) 7 6 6 bb1
def bb2:List Str:=["plan","candidate"]
def b3f:List Str:=["plan","candidate"]
def b3h:List S:=[
 .ex (.call 22 [.var 0]),
 .ret (.call 23 [.var 0,.var 1])]
def a4m:Nat→List D→R D:=fun f=>if f=22 then aa5 else if f=23 then aq0 else fun _=> .no
def a0l:List D→R D:=run a4m Fu 2 2 b3h
@[simp] theorem dj7:a4m 22=aa5:=rfl
@[simp] theorem dj8:a4m 23=aq0:=rfl
def bb7:List Str:=["plan","one","other"]
def b3i:List Str:=["plan","one","other"]
def b3k:List S:=[
 .ex (.call 33 [.var 0,.var 1,.var 2]),
 .top]
def bc1:Nat→List D→R D:=fun f=>if f=33 then ai2 else fun _=> .no
def a0m:List D→R D:=run bc1 Fu 3 3 b3k
@[simp] theorem dj9:bc1 33=ai2:=rfl
def bc2:List Str:=["plan","number"]
def b3o:List Str:=["plan","number"]
def b3p:List S:=[
 .ex (.call 22 [.var 0]),
 .ife (.u .nt (.call 17 [.var 1,.cst (.int 0),.b .sub (.u .len (.b .ix (.var 0) (.cst (.int 1)))) (.cst (.int 1))])) [
    .raise 17] [],
 .top]
def a4q:Nat→List D→R D:=fun f=>if f=22 then aa5 else if f=17 then ah8 else fun _=> .no
def aD0:List D→R D:=run a4q Fu 2 2 b3p
@[simp] theorem dk2:a4q 22=aa5:=rfl
@[simp] theorem dk3:a4q 17=ah8:=rfl
def aj6:List Str:=["plan"]
def au2:List Str:=["plan"]
def aN4:List S:=[
 .ex (.call 22 [.var 0]),
 .top]
def aI0:Nat→List D→R D:=fun f=>if f=22 then aa5 else fun _=> .no
def af4:List D→R D:=run aI0 Fu 1 1 aN4
@[simp] theorem dk4:aI0 22=aa5:=rfl
def aN5:List Str:=["plan"]
def a4s:List Str:=["plan"]
def bc3:List S:=[
 .ex (.call 22 [.var 0]),
 .top,
 .top]
def a4u:Nat→List D→R D:=fun f=>if f=22 then aa5 else fun _=> .no
def aD1:List D→R D:=run a4u Fu 1 1 bc3
@[simp] theorem dk5:a4u 22=aa5:=rfl
def aN7:List Str:=["plan","keys"]
def a4y:List Str:=["plan","keys"]
def bc4:List S:=[
 .ex (.call 22 [.var 0]),
 .ex (.call 53 [.var 0,.var 1]),
 .top]
def a0n:Nat→List D→R D:=fun f=>if f=22 then aa5 else if f=53 then af6 else fun _=> .no
def an4:List D→R D:=run a0n Fu 2 2 bc4
@[simp] theorem dk8:a0n 22=aa5:=rfl
@[simp] theorem dk9:a0n 53=af6:=rfl
def bc5:List Str:=["value"]
def b3s:List Str:=["value"]
def b3u:List S:=[
 .ife (.u .nt (.u .isStr (.var 0))) [
    .raise 21] []]
def b3v:Nat→List D→R D:=fun f=>fun _=> .no
def aq5:List D→R D:=run b3v Fu 1 1 b3u
def bc6:List Str:=["plan","text"]
def b3x:List Str:=["plan","text"]
def b3y:List S:=[
 .ex (.call 22 [.var 0]),
 .ex (.call 438 [.var 1]),
 .top]
def a4A:Nat→List D→R D:=fun f=>if f=22 then aa5 else if f=438 then aq5 else fun _=> .no
def aD3:List D→R D:=run a4A Fu 2 2 b3y
@[simp] theorem dl0:a4A 22=aa5:=rfl
@[simp] theorem dl4:a4A 438=aq5:=rfl
def ax6:List Str:=["plan","book"]
def aO1:List Str:=["plan","book"]
def a4B:List S:=[
 .ex (.call 22 [.var 0]),
 .ex (.call 25 [.var 0,.var 1]),
 .top]
def aO2:Nat→List D→R D:=fun f=>if f=22 then aa5 else if f=25 then at9 else fun _=> .no
def aj5:List D→R D:=run aO2 Fu 2 2 a4B
@[simp] theorem dl5:aO2 22=aa5:=rfl
@[simp] theorem dl6:aO2 25=at9:=rfl
def bd2:List Str:=["plan","text"]
def b3B:List Str:=["plan","text"]
def b3E:List S:=[
 .ex (.call 22 [.var 0]),
 .ex (.call 438 [.var 1]),
 .top,
 .top,
 .top]
def a4C:Nat→List D→R D:=fun f=>if f=22 then aa5 else if f=438 then aq5 else fun _=> .no
def a0p:List D→R D:=run a4C Fu 2 2 b3E
@[simp] theorem dl7:a4C 22=aa5:=rfl
@[simp] theorem dl8:a4C 438=aq5:=rfl
def bd5:List Str:=["plan","number","view"]
def b3K:List Str:=["plan"]
def b3L:List S:=[
 .ex (.call 22 [.var 0]),
 .top,
 .top]
def bd6:Nat→List D→R D:=fun f=>if f=22 then aa5 else fun _=> .no
def a0s:List D→R D:=run bd6 Fu 3 1 b3L
@[simp] theorem dm3:bd6 22=aa5:=rfl
def bd7:List Str:=["plan"]
def b3M:List Str:=["plan"]
def b3O:List S:=[
 .ret (.b .iss (.call 435 [.var 0]) (.cst .none))]
def bd8:Nat→List D→R D:=fun f=>if f=435 then af4 else fun _=> .no
def a0t:List D→R D:=run bd8 Fu 1 1 b3O
@[simp] theorem dm4:bd8 435=af4:=rfl
def be1:List Str:=["plan"]
def b3R:List Str:=["plan"]
def b3S:List S:=[
 .ret (.b .isn (.call 435 [.var 0]) (.cst .none))]
def be2:Nat→List D→R D:=fun f=>if f=435 then af4 else fun _=> .no
def a0A:List D→R D:=run be2 Fu 1 1 b3S
@[simp] theorem dm5:be2 435=af4:=rfl
def be4:List Str:=["plan"]
def b3U:List Str:=["plan"]
def b3V:List S:=[
 .ret (.and [.call 443 [.var 0],.u .nt (.call 444 [.var 0])])]
def a4H:Nat→List D→R D:=fun f=>if f=443 then a0t else if f=444 then a0A else fun _=> .no
def a0B:List D→R D:=run a4H Fu 1 1 b3V
@[simp] theorem dm6:a4H 443=a0t:=rfl
@[simp] theorem dm8:a4H 444=a0A:=rfl
def aO4:List Str:=["plan","bad","fine","off","book","key","calls"]
def b3W:List Str:=["plan","bad","fine","off","book","key"]
def ai3:Nat→List D→R D:=fun f=>if f=432 then a0l else if f=273 then a0c else if f=35 then aY5 else if f=433 then a0m else if f=434 then aD0 else if f=435 then af4 else if f=436 then aD1 else if f=44 then aZ2 else if f=43 then aZ1 else if f=437 then an4 else if f=439 then aD3 else if f=440 then aj5 else if f=441 then a0p else if f=442 then a0s else if f=445 then a0B else fun _=> .no
@[simp] theorem dn2:ai3 432=a0l:=rfl
@[simp] theorem dn3:ai3 273=a0c:=rfl
@[simp] theorem dn4:ai3 35=aY5:=rfl
@[simp] theorem dn6:ai3 433=a0m:=rfl
@[simp] theorem dn7:ai3 434=aD0:=rfl
@[simp] theorem do0:ai3 435=af4:=rfl
@[simp] theorem do1:ai3 436=aD1:=rfl
@[simp] theorem do3:ai3 44=aZ2:=rfl
@[simp] theorem do5:ai3 43=aZ1:=rfl
@[simp] theorem do7:ai3 437=an4:=rfl
@[simp] theorem do8:ai3 439=aD3:=rfl
@[simp] theorem do9:ai3 440=aj5:=rfl
@[simp] theorem dp0:ai3 441=a0p:=rfl
@[simp] theorem dp1:ai3 442=a0s:=rfl
@[simp] theorem dp2:ai3 445=a0B:=rfl
def be5:List LBk:=[⟨.call 432 [.var 1,.var 3],[.call 273 [.var 1,.var 3],.call 35 [.var 1,.var 3,.var 3],.call 433 [.var 1,.var 3,.var 3],.call 434 [.var 1,.cst (.int 9)],.call 435 [.var 1],.call 435 [.var 1],.call 436 [.var 1],.call 436 [.var 1],.call 44 [.var 1,.cst .none],.call 43 [.var 1,.cst (.int 1)],.call 437 [.var 1,.cst .none],.call 439 [.var 1,.cst .none],.call 440 [.var 1,.cst .none],.call 441 [.var 1,.cst (.int 1)],.call 442 [.var 1],.call 435 [.var 1],.call 435 [.var 1],.call 445 [.var 1],.call 435 [.var 1]],"InvalidPlan"⟩]
def a4J:List D→R D:=bkM ai3 (nmE au1) 7 6 6 be5
def be7:List Str:=["plan","entries","entry"]
def b3Z:List Str:=["plan","entries"]
def b30:List S:=[
 .ex (.call 22 [.var 0]),
 .ife (.u .nt (.u .isTup (.var 1))) [
    .raise 5] [],
 .for_ (.one 2) (.var 1) [
    .ex (.call 32 [.var 0,.var 2])],
 .top]
def a4M:Nat→List D→R D:=fun f=>if f=22 then aa5 else if f=32 then af8 else fun _=> .no
def a0D:List D→R D:=run a4M Fu 3 2 b30
@[simp] theorem dp4:a4M 22=aa5:=rfl
@[simp] theorem dp5:a4M 32=af8:=rfl
def be8:List Str:=["plan","one","other"]
def b32:List Str:=["plan","one","other"]
def b33:List S:=[
 .ex (.call 33 [.var 0,.var 1,.var 2]),
 .ex (.call 57 [.var 0,.var 1,.var 2]),
 .top]
def a4N:Nat→List D→R D:=fun f=>if f=33 then ai2 else if f=57 then aq4 else fun _=> .no
def a0F:List D→R D:=run a4N Fu 3 3 b33
@[simp] theorem dp6:a4N 33=ai2:=rfl
@[simp] theorem dp7:a4N 57=aq4:=rfl
def bf0:List Str:=["plan","one","middle","other","entry"]
def b34:List Str:=["plan","one","middle","other"]
def b35:List S:=[
 .ex (.call 22 [.var 0]),
 .for_ (.one 4) (.tup [.var 1,.var 2,.var 3]) [
    .ex (.call 32 [.var 0,.var 4])],
 .ex (.call 57 [.var 0,.var 1,.var 2]),
 .ex (.call 57 [.var 0,.var 2,.var 3]),
 .top]
def a0I:Nat→List D→R D:=fun f=>if f=22 then aa5 else if f=57 then aq4 else if f=32 then af8 else fun _=> .no
def a0K:List D→R D:=run a0I Fu 5 4 b35
@[simp] theorem dp9:a0I 22=aa5:=rfl
@[simp] theorem dq1:a0I 57=aq4:=rfl
@[simp] theorem dq2:a0I 32=af8:=rfl
def bf1:List Str:=["plan","key","entry"]
def b36:List Str:=["plan","key","entry"]
def b37:List S:=[
 .ex (.call 22 [.var 0]),
 .ex (.call 49 [.var 0,.var 1]),
 .ex (.call 32 [.var 0,.var 2]),
 .top]
def a0L:Nat→List D→R D:=fun f=>if f=22 then aa5 else if f=49 then aZ5 else if f=32 then af8 else fun _=> .no
def aD5:List D→R D:=run a0L Fu 3 3 b37
@[simp] theorem dq4:a0L 22=aa5:=rfl
@[simp] theorem dq5:a0L 49=aZ5:=rfl
@[simp] theorem dq8:a0L 32=af8:=rfl
def bf2:List Str:=["plan","keys","one","other"]
def b38:List Str:=["plan","keys","one","other"]
def b4a:List S:=[
 .ex (.call 22 [.var 0]),
 .ex (.call 53 [.var 0,.var 1]),
 .ex (.call 32 [.var 0,.var 2]),
 .ex (.call 32 [.var 0,.var 3]),
 .top]
def a0M:Nat→List D→R D:=fun f=>if f=22 then aa5 else if f=53 then af6 else if f=32 then af8 else fun _=> .no
def aD6:List D→R D:=run a0M Fu 4 4 b4a
@[simp] theorem dr1:a0M 22=aa5:=rfl
@[simp] theorem dr4:a0M 53=af6:=rfl
@[simp] theorem dr6:a0M 32=af8:=rfl
def bf4:List Str:=["plan","keys","one","other"]
def b4d:List Str:=["plan","keys","one","other"]
def b4e:List S:=[
 .ret (.b .ne (.call 451 [.var 0,.var 1,.var 2,.var 3]) (.lst []))]
def bf6:Nat→List D→R D:=fun f=>if f=451 then aD6 else fun _=> .no
def a0N:List D→R D:=run bf6 Fu 4 4 b4e
@[simp] theorem dr7:bf6 451=aD6:=rfl
def bf7:List Str:=["plan","entry"]
def b4f:List Str:=["plan","entry"]
def b4i:List S:=[
 .ex (.call 22 [.var 0]),
 .ex (.call 32 [.var 0,.var 1]),
 .top]
def a4Q:Nat→List D→R D:=fun f=>if f=22 then aa5 else if f=32 then af8 else fun _=> .no
def a0Q:List D→R D:=run a4Q Fu 2 2 b4i
@[simp] theorem dr8:a4Q 22=aa5:=rfl
@[simp] theorem dr9:a4Q 32=af8:=rfl
def bg0:List Str:=["plan","book","one","other"]
def b4j:List Str:=["plan","book","one","other"]
def b4l:List S:=[
 .ex (.call 22 [.var 0]),
 .ex (.call 25 [.var 0,.var 1]),
 .ex (.call 67 [.var 1,.var 2]),
 .ex (.call 67 [.var 1,.var 3]),
 .ife (.b .eq (.var 2) (.var 3)) [
    .raise 9] [],
 .ex (.call 57 [.var 0,.b .ix (.var 1) (.var 2),.b .ix (.var 1) (.var 3)]),
 .top]
def aO5:Nat→List D→R D:=fun f=>if f=22 then aa5 else if f=25 then at9 else if f=67 then aZ9 else if f=57 then aq4 else fun _=> .no
def a0S:List D→R D:=run aO5 Fu 4 4 b4l
@[simp] theorem ds1:aO5 22=aa5:=rfl
@[simp] theorem ds2:aO5 25=at9:=rfl
@[simp] theorem ds3:aO5 67=aZ9:=rfl
@[simp] theorem ds4:aO5 57=aq4:=rfl
def bg2:List Str:=["plan","book"]
def b4o:List Str:=["plan","book"]
def b4q:List S:=[
 .ret (.b .eq (.call 440 [.var 0,.var 1]) (.lst []))]
def bg4:Nat→List D→R D:=fun f=>if f=440 then aj5 else fun _=> .no
def a0T:List D→R D:=run bg4 Fu 2 2 b4q
@[simp] theorem ds5:bg4 440=aj5:=rfl
def aO7:List Str:=["plan","bad","fine","off","book","key","calls"]
def b4t:List Str:=["plan","bad","fine","off","book","key"]
def an6:Nat→List D→R D:=fun f=>if f=447 then a0D else if f=38 then aY7 else if f=448 then a0F else if f=449 then a0K else if f=450 then aD5 else if f=452 then a0N else if f=453 then a0Q else if f=34 then aY4 else if f=440 then aj5 else if f=454 then a0S else if f=455 then a0T else fun _=> .no
@[simp] theorem ds6:an6 447=a0D:=rfl
@[simp] theorem ds7:an6 38=aY7:=rfl
@[simp] theorem ds8:an6 448=a0F:=rfl
@[simp] theorem dt3:an6 449=a0K:=rfl
@[simp] theorem dt4:an6 450=aD5:=rfl
@[simp] theorem dt5:an6 452=a0N:=rfl
@[simp] theorem dt8:an6 453=a0Q:=rfl
@[simp] theorem dt9:an6 34=aY4:=rfl
@[simp] theorem du0:an6 440=aj5:=rfl
@[simp] theorem du1:an6 454=a0S:=rfl
@[simp] theorem du3:an6 455=a0T:=rfl
def bg6:List LBk:=[⟨.call 447 [.var 0,.tup [.var 2,.var 3]],[.call 38 [.var 0,.var 3,.var 2],.call 448 [.var 0,.var 3,.var 2],.call 449 [.var 0,.var 2,.var 3,.var 3],.call 449 [.var 0,.var 2,.b .ix (.var 4) (.cst (.int 1)),.var 3],.call 450 [.var 0,.var 5,.var 3],.call 452 [.var 0,.tup [.var 5],.var 2,.var 3],.call 453 [.var 0,.var 3],.call 34 [.var 0,.var 2,.var 3]],"InvalidEntry"⟩,
 ⟨.call 440 [.var 0,.tup [.var 3]],[.call 454 [.var 0,.tup [.var 3],.cst (.int 9),.cst (.int 9)],.call 440 [.var 0,.cst .none],.call 455 [.var 0,.lst []]],"InvalidBook"⟩,
 ⟨.call 448 [.var 0,.b .ix (.var 4) (.cst (.int 0)),.b .ix (.var 4) (.cst (.int 1))],[.call 454 [.var 0,.var 4,.cst (.int 0),.cst (.int 1)],.call 449 [.var 0,.var 2,.var 2,.b .ix (.var 4) (.cst (.int 1))]],"NoMatch"⟩,
 ⟨.call 454 [.var 0,.var 4,.cst (.int 2),.cst (.int 0)],[.call 454 [.var 0,.var 4,.cst (.int 0),.cst (.bool true)],.call 454 [.var 0,.var 4,.cst (.int 1),.cst (.int 1)]],"InvalidPlace"⟩]
def a4V:List D→R D:=bkM an6 (nmE au1) 7 6 6 bg6
def bh1:List Str:=["plan","test"]
def b4u:List Str:=["plan","test"]
def b4v:List S:=[
 .ex (.call 22 [.var 0]),
 .ife (.or [.b .nmem (.var 1) (.b .ix (.var 0) (.cst (.int 2))),.u .nt (.call 17 [.b .ix (.var 1) (.cst (.int 0)),.cst (.int 0),.u .len (.b .ix (.var 0) (.cst (.int 0)))])]) [
    .raise 20] [],
 .top]
def a4W:Nat→List D→R D:=fun f=>if f=22 then aa5 else if f=17 then ah8 else fun _=> .no
def a0W:List D→R D:=run a4W Fu 2 2 b4v
@[simp] theorem du4:a4W 22=aa5:=rfl
@[simp] theorem du6:a4W 17=ah8:=rfl
def bh3:List Str:=["plan","keys"]
def b4w:List Str:=["plan","keys"]
def b4x:List S:=[
 .ex (.call 22 [.var 0]),
 .ex (.call 53 [.var 0,.var 1]),
 .top,
 .top,
 .ret (.cst .none)]
def a5a:Nat→List D→R D:=fun f=>if f=22 then aa5 else if f=53 then af6 else fun _=> .no
def a0Z:List D→R D:=run a5a Fu 2 2 b4x
@[simp] theorem du7:a5a 22=aa5:=rfl
@[simp] theorem du8:a5a 53=af6:=rfl
def bh5:List Str:=["plan","keys","number","key","view"]
def b4y:List Str:=["plan","keys"]
def b4z:List S:=[
 .ex (.call 22 [.var 0]),
 .ex (.call 53 [.var 0,.var 1]),
 .top,
 .top]
def a5b:Nat→List D→R D:=fun f=>if f=22 then aa5 else if f=53 then af6 else fun _=> .no
def a00:List D→R D:=run a5b Fu 5 2 b4z
@[simp] theorem du9:a5b 22=aa5:=rfl
@[simp] theorem dv0:a5b 53=af6:=rfl
def bh6:List Str:=["plan","keys","find","found","key"]
def b4A:List Str:=["plan","keys","find"]
def b4B:List S:=[
 .ex (.call 22 [.var 0]),
 .ex (.call 53 [.var 0,.var 1]),
 .own 3 (.lst []),
 .for_ (.one 4) (.var 1) [
    .ext 3 (.fcl 2 [.var 0,.var 4])],
 .top]
def a01 (ψ:List (List D→R D)):Nat→List D→R D:=fun f=>if f=9001 then ψ.getD 0 (fun _=> .no)else if f=22 then aa5 else if f=53 then af6 else fun _=> .no
def a5e (ψ:List (List D→R D)):List D→R D:=a3m (a01 ψ) Fu 5 2 1 b4B
@[simp] theorem dv3 (ψ:List (List D→R D)):a01 ψ 9001=ψ.getD 0 (fun _=> .no):=rfl
@[simp] theorem dv4 (ψ:List (List D→R D)):a01 ψ 22=aa5:=rfl
@[simp] theorem dv6 (ψ:List (List D→R D)):a01 ψ 53=af6:=rfl
def aO9:List Str:=["plan","key"]
def a5f:List Str:=["plan","key"]
def bh7:List S:=[
 .top,
 .top,
 .top]
def bi1:Nat→List D→R D:=fun f=>fun _=> .no
def aI1:List D→R D:=run bi1 Fu 2 2 bh7
def b4C:List Str:=["plan","keys"]
def b4D:List Str:=["plan","keys"]
def aq6:List D→R D:=mX a5e aI1
def bi3:List Str:=["plan","keys"]
def b4E:List Str:=["plan","keys"]
def b4J:List S:=[
 .ret (.b .iss (.call 437 [.var 0,.var 1]) (.cst .none))]
def bi4:Nat→List D→R D:=fun f=>if f=437 then an4 else fun _=> .no
def a02:List D→R D:=run bi4 Fu 2 2 b4J
@[simp] theorem dv7:bi4 437=an4:=rfl
def bi5:List Str:=["plan","keys"]
def b4M:List Str:=["plan","keys"]
def b4N:List S:=[
 .ret (.b .isn (.call 463 [.var 0,.var 1]) (.cst .none))]
def bi6:Nat→List D→R D:=fun f=>if f=463 then aq6 else fun _=> .no
def a03:List D→R D:=run bi6 Fu 2 2 b4N
@[simp] theorem dw0:bi6 463=aq6:=rfl
def bi9:List Str:=["plan","keys"]
def b4O:List Str:=["plan","keys"]
def b4U:List S:=[
 .ret (.and [.call 464 [.var 0,.var 1],.u .nt (.call 465 [.var 0,.var 1])])]
def a5k:Nat→List D→R D:=fun f=>if f=464 then a02 else if f=465 then a03 else fun _=> .no
def a05:List D→R D:=run a5k Fu 2 2 b4U
@[simp] theorem dw1:a5k 464=a02:=rfl
@[simp] theorem dw2:a5k 465=a03:=rfl
def bj0:List Str:=["text","lines","kinds","plan","line"]
def b4V:List Str:=["text"]
def b41:List S:=[
 .ex (.call 438 [.var 0]),
 .top,
 .set (.one 2) (.ite (.b .ne (.var 1) (.lst [])) (.u .tup (.b .from (.b .ix (.var 1) (.cst (.int 0))) (.cst (.int 1)))) (.tup [])),
 .top,
 .top,
 .top,
 .top,
 .ret (.var 3)]
def bj2:Nat→List D→R D:=fun f=>if f=438 then aq5 else fun _=> .no
def a06:List D→R D:=run bj2 Fu 5 1 b41
@[simp] theorem dw3:bj2 438=aq5:=rfl
def aP0:List Str:=["plan","bad","fine","off","book","key","calls"]
def b43:List Str:=["plan","bad","fine","off","book","key"]
def al9:Nat→List D→R D:=fun f=>if f=434 then aD0 else if f=457 then a0W else if f=450 then aD5 else if f=451 then aD6 else if f=458 then a0Z else if f=459 then a00 else if f=463 then aq6 else if f=466 then a05 else if f=437 then an4 else if f=429 then aC9 else if f=439 then aD3 else if f=467 then a06 else fun _=> .no
@[simp] theorem dw7:al9 434=aD0:=rfl
@[simp] theorem dw8:al9 457=a0W:=rfl
@[simp] theorem dw9:al9 450=aD5:=rfl
@[simp] theorem dx0:al9 451=aD6:=rfl
@[simp] theorem dx1:al9 458=a0Z:=rfl
@[simp] theorem dx3:al9 459=a00:=rfl
@[simp] theorem dx4:al9 463=aq6:=rfl
@[simp] theorem dx6:al9 466=a05:=rfl
@[simp] theorem dx7:al9 437=an4:=rfl
@[simp] theorem dx8:al9 429=aC9:=rfl
@[simp] theorem dy0:al9 439=aD3:=rfl
@[simp] theorem dy1:al9 467=a06:=rfl
def bj3:List LBk:=[⟨.call 434 [.var 0,.cst (.int 1)],[.call 434 [.var 0,.cst (.bool false)]],"InvalidNumber"⟩,
 ⟨.call 457 [.var 0,.cst .none],[],"InvalidTest"⟩,
 ⟨.call 450 [.var 0,.tup [.var 5],.var 3],[],"InvalidKey"⟩,
 ⟨.call 451 [.var 0,.var 5,.var 3,.var 3],[.call 458 [.var 0,.var 5],.call 459 [.var 0,.lst [.var 5]],.call 463 [.var 0,.cst .none],.call 466 [.var 0,.tup [.var 5,.var 5]],.call 437 [.var 0,.var 5],.call 429 [.var 0,.var 5,.cst .none],.call 463 [.var 0,.var 5]],"InvalidKeys"⟩,
 ⟨.call 439 [.var 0,.cst .none],[.call 467 [.cst .none]],"ParseError"⟩]
def a5l:List D→R D:=bkM al9 (nmE au1) 7 6 6 bj3
end Lw
namespace Lw
open PySem PySem.Spec L2 Fz
def aP4:List Str:=["script","plan","bad","look","fine","off","book","key"]
def cK5:List Str:=["script"]
def a5m:List S:=[.set (.one 1) (.tup [.tup [.cst (.str "all"),.cst (.str "agreed")],.tup [.tup [.tup [.cst (.int 0),.cst (.str "same")]]],.tup [.tup [.cst (.int 1),.cst (.str "unlike")]]]),
 .set (.one 2) (.b .ix (.tup [.cst .none,.tup [],.cst (.int 5),.cst (.str "plan"),.tup [.var 1]]) (.call 3 [.var 0,.cst (.int 0),.cst (.int 5)])),
 .par [(4,false,.tup [.tup [.cst (.str "a")],.tup []]),(5,false,.b .ix (.tup [.cst .none,.tup [.tup [],.tup [],.tup []],.tup [.tup [.cst (.str "b"),.cst (.str "a")],.tup []],.lst [.tup [],.tup []]]) (.call 3 [.var 0,.cst (.int 1),.cst (.int 4)]))],
 .par [(6,false,.tup [.var 4,.tup [.tup [.cst (.str "b")],.tup []]]),(7,false,.tup [.tup [.cst (.int 0),.cst (.str "word")]])]]
def a1b:List E:=[.var 1,.var 2,.var 4,.var 5,.var 6,.var 7]
def aI2:List (Str×(List D→R D)):=[("_law_first",a4k),("_law_second",a4J),("_law_third",a4V),("_law_fourth",a5l)]
def aP5:Nat→List D→R D:=fun f=>if f=3 then ax5 else fun _=> .no
@[simp] theorem dy3:aP5 3=ax5:=rfl
def a5r (ns:List Int):SR:=a3w aP5 Fu a5m 3 a1b (aI2.map (·.2)) (ad8 aP4.length [.list (ns.map .int)])
def b44:List (Str×Nat):=[]
def bj4:List (Str×Nat):=[("is_word",0)]
def bj5:List (Str×Nat):=[("is_content",1)]
def b47:List (Str×Nat):=[]
def b48:List (Str×Nat):=[]
def bj8:List (Str×Nat):=[("have_word",8),("have_near",9)]
def bk0:List (Str×Nat):=[("check_content",6),("does_hold",10)]
def bk2:List (Str×Nat):=[("check_content",6)]
def b5b:List (Str×Nat):=[]
def b5c:List (Str×Nat):=[]
def bk3:List (Str×Nat):=[("is_int",17)]
def bk4:List (Str×Nat):=[("is_rising",16),("is_test",18)]
def b5d:List (Str×Nat):=[]
def bk5:List (Str×Nat):=[("are_tests",19),("are_kinds",20),("is_rising",16)]
def bk6:List (Str×Nat):=[("is_plan",21)]
def bk7:List (Str×Nat):=[("check_content",6)]
def bk8:List (Str×Nat):=[("check_plan",22),("few_entries",427)]
def bk9:List (Str×Nat):=[("is_int",17)]
def bl0:List (Str×Nat):=[("is_rising",16),("is_part",40)]
def bl3:List (Str×Nat):=[("is_rising",16),("has_key",41)]
def bl4:List (Str×Nat):=[("have_keys",42)]
def bl5:List (Str×Nat):=[("check_plan",22),("check_keys",53),("few_entries",427)]
def bl6:List (Str×Nat):=[("check_plan",22),("check_content",6)]
def aP7:List (Str×Nat):=[("holds",11),("merge_contents",426),("naive_three",428),("naive_missed",429),("all_entries",430)]
def bl7:List (Str×Nat):=[("is_content",1)]
def bl8:List (Str×Nat):=[("check_plan",22),("has_entry",23)]
def bl9:List (Str×Nat):=[("has_entry",23)]
def bm0:List (Str×Nat):=[("check_plan",22),("has_book",24)]
def bm2:List (Str×Nat):=[("has_entry",23)]
def bm3:List (Str×Nat):=[("check_plan",22),("check_entry",32)]
def bm5:List (Str×Nat):=[("does_hold",10)]
def bm6:List (Str×Nat):=[("has_test",26)]
def bm7:List (Str×Nat):=[("check_two",33),("find_rules",27)]
def bm8:List (Str×Nat):=[("check_two",33)]
def bm9:List (Str×Nat):=[("check_plan",22),("is_int",17)]
def bn0:List (Str×Nat):=[("check_plan",22)]
def bn1:List (Str×Nat):=[("check_plan",22)]
def bn2:List (Str×Nat):=[("check_plan",22)]
def bn3:List (Str×Nat):=[("check_plan",22)]
def bn4:List (Str×Nat):=[("check_plan",22),("has_key",41)]
def bn6:List (Str×Nat):=[("check_plan",22),("have_keys",42)]
def bn7:List (Str×Nat):=[("check_plan",22),("check_keys",53)]
def b5e:List (Str×Nat):=[]
def bo1:List (Str×Nat):=[("check_plan",22),("check_text",438)]
def bo4:List (Str×Nat):=[("has_book",24)]
def bo5:List (Str×Nat):=[("check_plan",22),("check_book",25)]
def bo6:List (Str×Nat):=[("check_plan",22),("check_text",438)]
def bo7:List (Str×Nat):=[("check_plan",22)]
def bo9:List (Str×Nat):=[("check_plan",22)]
def bp0:List (Str×Nat):=[("check_plan",22)]
def bp1:List (Str×Nat):=[("lost_match",435)]
def bp3:List (Str×Nat):=[("added_match",435)]
def bp4:List (Str×Nat):=[("keeps_matches",443),("adds_matches",444)]
def bq0:List (Str×Nat):=[("check_plan",22)]
def aP8:List (Str×Nat):=[("is_entry",432),("is_book",273),("rules_between",35),("joined",433),("rule_pair",434),("is_order_free",435),("lost_match",435),("lost_word",436),("breaking_book",436),("is_key",44),("are_keys",43),("missed_pair",437),("parse_entry",439),("format_book",440),("parse_keys",441),("needless_rules",442),("needless_bars",435),("added_match",435),("goes_by_groups",445),("format_plan",435)]
def bq1:List (Str×Nat):=[("check_plan",22),("check_entry",32)]
def bq2:List (Str×Nat):=[("has_test",26)]
def bq6:List (Str×Nat):=[("find_rules",27),("find_bars",28)]
def bq7:List (Str×Nat):=[("check_two",33),("find_match",29)]
def bq9:List (Str×Nat):=[("find_match",29)]
def br0:List (Str×Nat):=[("check_two",33),("check_match",57)]
def br2:List (Str×Nat):=[("check_plan",22),("check_match",57),("check_entry",32)]
def br3:List (Str×Nat):=[("has_key",41)]
def br4:List (Str×Nat):=[("check_plan",22),("check_key",49),("check_entry",32)]
def br6:List (Str×Nat):=[("check_plan",22),("check_keys",53),("check_entry",32)]
def br7:List (Str×Nat):=[("common_labels",451)]
def br8:List (Str×Nat):=[("check_plan",22),("check_entry",32)]
def br9:List (Str×Nat):=[("check_two",33),("find_bars",28)]
def bs0:List (Str×Nat):=[("check_plan",22),("check_book",25)]
def bs1:List (Str×Nat):=[("is_int",17)]
def bs3:List (Str×Nat):=[("check_plan",22),("check_book",25),("check_place",67),("check_match",57)]
def bs4:List (Str×Nat):=[("check_plan",22),("check_book",25)]
def bs5:List (Str×Nat):=[("matches",440)]
def aP9:List (Str×Nat):=[("count_words",447),("do_match",38),("merged",448),("two_ways",449),("labels",450),("share_label",452),("format_entry",453),("bars_between",34),("matches",440),("step",454),("groups",440),("is_done",455)]
def bs9:List (Str×Nat):=[("check_plan",22),("is_int",17)]
def bt4:List (Str×Nat):=[("check_plan",22),("check_keys",53)]
def bt5:List (Str×Nat):=[("check_plan",22),("check_keys",53)]
def bt6:List (Str×Nat):=[("check_plan",22),("check_keys",53)]
def b5f:List (Str×Nat):=[]
def bt7:List (Str×Nat):=[("missed_pair",437)]
def bt8:List (Str×Nat):=[("added_label",463)]
def bu0:List (Str×Nat):=[("miss_nothing",464),("adds_labels",465)]
def bu2:List (Str×Nat):=[("check_plan",22),("check_keys",53)]
def b5h:List (Str×Nat):=[]
def bu3:List (Str×Nat):=[("check_text",438)]
def aQ1:List (Str×Nat):=[("rule_pair",434),("bar_pair",457),("labels",450),("common_labels",451),("fewest_keys",458),("needless_keys",459),("added_label",463),("can_stay",466),("format_keys",437),("naive_missed",429),("dropped_label",463),("parse_entry",439),("parse_plan",467)]
def b5i:List (Str×Nat):=[]
def bu5:List (Str×Nat):=[("_law_pick",3)]
def cK6:List Str:=["fault","kinds","names"]
def cK7:List Str:=["fault"]
def cK9:List Str:=["calls","name","found","call","fault"]
def cL0:List Str:=["calls","name"]
theorem sc0:scB cK6 cK7 (defScope (top 239))=true:=by decide+kernel
theorem lc0:a8E (defScope (top 239)) exs a5E "fault" "kinds" "names" (defBody (top 239)) aR3=true:=by decide+kernel
theorem ls0:a3s (defScope (top 239)) "fault" "kinds" "names"=true:=by decide+kernel
theorem sc1:scB cK9 cL0 (defScope (top 240))=true:=by decide+kernel
theorem lc1:laB "_law_class" "EntryError" (defBody (top 240))=some (["calls","name","found","call","fault"]:List Str):=by decide+kernel
theorem ls1:aW3 (defScope (top 240)) ["calls","name","found","call","fault"] "_law_class" "EntryError"=true:=by decide+kernel
theorem sc2:scB a8M b0C (defScope (top 32))=true:=by decide+kernel
theorem ck2:css ⟨a8M,defScope (top 32),stOf (defScope (top 32)),b44,glo,exs,[],trs,[],false,[],[],[],[],[]⟩ b0D (defBody (top 32))=true:=by decide+kernel
theorem sc3:scB a8N b0K (defScope (top 33))=true:=by decide+kernel
theorem ck3:css ⟨a8N,defScope (top 33),stOf (defScope (top 33)),bj4,glo,exs,[],trs,[],false,[],[],[],[],[]⟩ b0L (defBody (top 33))=true:=by decide+kernel
theorem sc4:scB a8S b0Q (defScope (top 34))=true:=by decide+kernel
theorem ck4:css ⟨a8S,defScope (top 34),stOf (defScope (top 34)),bj5,glo,exs,[],trs,[],false,[],[],[],[],[]⟩ b0R (defBody (top 34))=true:=by decide+kernel
theorem sc5:scB a8W b0U (defScope (top 35))=true:=by decide+kernel
theorem ck5:css ⟨a8W,defScope (top 35),stOf (defScope (top 35)),b47,glo,exs,[],trs,[],false,[],[],[],[],[]⟩ b0V (defBody (top 35))=true:=by decide+kernel
theorem sc6:scB a8Y b0X (defScope (top 36))=true:=by decide+kernel
theorem ck6:css ⟨a8Y,defScope (top 36),stOf (defScope (top 36)),b48,glo,exs,[],trs,[],false,[],[],[],[],[]⟩ b0Y (defBody (top 36))=true:=by decide+kernel
theorem sc7:scB a8Z b02 (defScope (top 37))=true:=by decide+kernel
theorem ck7:css ⟨a8Z,defScope (top 37),stOf (defScope (top 37)),bj8,glo,exs,[],trs,[],false,[],[],[],[],[]⟩ b06 (defBody (top 37))=true:=by decide+kernel
theorem sc8:scB a80 b1c (defScope (top 38))=true:=by decide+kernel
theorem ck8:css ⟨a80,defScope (top 38),stOf (defScope (top 38)),bk0,glo,exs,[],trs,[],false,[],[],[],[],[]⟩ b1e (defBody (top 38))=true:=by decide+kernel
theorem sc9:scB a97 b2X (defScope (top 41))=true:=by decide+kernel
theorem ck9:css ⟨a97,defScope (top 41),stOf (defScope (top 41)),bk2,glo,exs,[],trs,[],false,[],[],[],[],[]⟩ b21 (defBody (top 41))=true:=by decide+kernel
theorem cL2:scB a81 b1f (defScope (top 49))=true:=by decide+kernel
theorem cL7:css ⟨a81,defScope (top 49),stOf (defScope (top 49)),b5b,glo,exs,[],trs,[],false,[],[],[],[],[]⟩ b1i (defBody (top 49))=true:=by decide+kernel
theorem cL8:scB a82 b1n (defScope (top 48))=true:=by decide+kernel
theorem cL9:css ⟨a82,defScope (top 48),stOf (defScope (top 48)),b5c,glo,exs,[],trs,[],false,[],[],[],[],[]⟩ b1o (defBody (top 48))=true:=by decide+kernel
theorem cM0:scB a83 b1q (defScope (top 50))=true:=by decide+kernel
theorem cM4:css ⟨a83,defScope (top 50),stOf (defScope (top 50)),bk3,glo,exs,[],trs,[],false,[],[],[],[],[]⟩ b1r (defBody (top 50))=true:=by decide+kernel
theorem cM6:scB a87 b1s (defScope (top 51))=true:=by decide+kernel
theorem cM9:css ⟨a87,defScope (top 51),stOf (defScope (top 51)),bk4,glo,exs,[],trs,[],false,[],[],[],[],[]⟩ b1t (defBody (top 51))=true:=by decide+kernel
theorem cN0:scB a9a b1x (defScope (top 52))=true:=by decide+kernel
theorem cN1:css ⟨a9a,defScope (top 52),stOf (defScope (top 52)),b5d,glo,exs,[],trs,[],false,[],[],[],[],[]⟩ b1y (defBody (top 52))=true:=by decide+kernel
theorem cN2:scB a9b b1B (defScope (top 53))=true:=by decide+kernel
theorem cN5:css ⟨a9b,defScope (top 53),stOf (defScope (top 53)),bk5,glo,exs,[],trs,[],false,[],[],[],[],[]⟩ b1C (defBody (top 53))=true:=by decide+kernel
theorem cN7:scB a9d b1E (defScope (top 54))=true:=by decide+kernel
theorem cN8:css ⟨a9d,defScope (top 54),stOf (defScope (top 54)),bk6,glo,exs,[],trs,[],false,[],[],[],[],[]⟩ b1I (defBody (top 54))=true:=by decide+kernel
theorem cN9:scB ba1 b22 (defScope (top 217))=true:=by decide+kernel
theorem cO2:css ⟨ba1,defScope (top 217),stOf (defScope (top 217)),bk7,glo,exs,[],trs,[],false,[],[],[],[],[]⟩ b23 (defBody (top 217))=true:=by decide+kernel
theorem cO3:scB ba6 b24 (defScope (top 219))=true:=by decide+kernel
theorem cO4:css ⟨ba6,defScope (top 219),stOf (defScope (top 219)),bk8,glo,exs,[],trs,[],false,[],[],[],[],[]⟩ b25 (defBody (top 219))=true:=by decide+kernel
theorem cO5:scB a9M b2o (defScope (top 95))=true:=by decide+kernel
theorem cO8:css ⟨a9M,defScope (top 95),stOf (defScope (top 95)),bk9,glo,exs,[],trs,[],false,[],[],[],[],[]⟩ b2p (defBody (top 95))=true:=by decide+kernel
theorem cO9:scB a9O b2r (defScope (top 96))=true:=by decide+kernel
theorem cP1:css ⟨a9O,defScope (top 96),stOf (defScope (top 96)),bl0,glo,exs,[],trs,[],false,[],[],[],[],[]⟩ b2t (defBody (top 96))=true:=by decide+kernel
theorem cP2:scB a9Q b2v (defScope (top 98))=true:=by decide+kernel
theorem cP3:css ⟨a9Q,defScope (top 98),stOf (defScope (top 98)),bl3,glo,exs,[],trs,[],false,[],[],[],[],[]⟩ b2w (defBody (top 98))=true:=by decide+kernel
theorem cP4:scB a9V b2M (defScope (top 101))=true:=by decide+kernel
theorem cQ0:css ⟨a9V,defScope (top 101),stOf (defScope (top 101)),bl4,glo,exs,[],trs,[],false,[],[],[],[],[]⟩ b2O (defBody (top 101))=true:=by decide+kernel
theorem cQ2:scB ba8 b26 (defScope (top 220))=true:=by decide+kernel
theorem cQ4:css ⟨ba8,defScope (top 220),stOf (defScope (top 220)),bl5,glo,exs,[],trs,[],false,[],[],[],[],[]⟩ b27 (defBody (top 220))=true:=by decide+kernel
theorem cQ5:scB bb0 b3a (defScope (top 68))=true:=by decide+kernel
theorem cQ7:css ⟨bb0,defScope (top 68),stOf (defScope (top 68)),bl6,glo,exs,[],trs,[],false,[],[],[],[],[]⟩ b3c (defBody (top 68))=true:=by decide+kernel
theorem cQ8:scB aN3 b3e (defScope (top 241))=true:=by decide+kernel
theorem cQ9:aA7 ⟨aN3,defScope (top 241),stOf (defScope (top 241)),aP7,glo,exs,[],[],[],false,[],[],[],[],[]⟩ "_law_all" "calls" bb1 (defBody (top 241))=true:=by decide+kernel
theorem cR1:ap9 ⟨aN3,defScope (top 241),stOf (defScope (top 241)),aP7,glo,exs,[],[],[],false,[],[],[],[],[]⟩ 6 "calls"=true:=by decide+kernel
theorem cR2:an3 ⟨aN3,defScope (top 241),stOf (defScope (top 241)),aP7,glo,exs,[],[],[],false,[],[],[],[],[]⟩ 6 "calls"=true:=by decide+kernel
theorem cR3:glB ⟨aN3,defScope (top 241),stOf (defScope (top 241)),aP7,glo,exs,[],[],[],false,[],[],[],[],[]⟩ "_law_all"=true:=by decide+kernel
theorem cR6:scB a9f b1K (defScope (top 55))=true:=by decide+kernel
theorem cR7:css ⟨a9f,defScope (top 55),stOf (defScope (top 55)),bl7,glo,exs,[],trs,[],false,[],[],[],[],[]⟩ b1L (defBody (top 55))=true:=by decide+kernel
theorem cR9:scB bb2 b3f (defScope (top 56))=true:=by decide+kernel
theorem cS0:css ⟨bb2,defScope (top 56),stOf (defScope (top 56)),bl8,glo,exs,[],trs,[],false,[],[],[],[],[]⟩ b3h (defBody (top 56))=true:=by decide+kernel
theorem cS1:scB a9l b1M (defScope (top 58))=true:=by decide+kernel
theorem cS2:css ⟨a9l,defScope (top 58),stOf (defScope (top 58)),bl9,glo,exs,[],trs,[],false,[],[],[],[],[]⟩ b1O (defBody (top 58))=true:=by decide+kernel
theorem cS3:scB a96 b2U (defScope (top 59))=true:=by decide+kernel
theorem cS4:css ⟨a96,defScope (top 59),stOf (defScope (top 59)),bm0,glo,exs,[],trs,[],false,[],[],[],[],[]⟩ b2V (defBody (top 59))=true:=by decide+kernel
theorem cS5:scB a9D b18 (defScope (top 57))=true:=by decide+kernel
theorem cS7:css ⟨a9D,defScope (top 57),stOf (defScope (top 57)),bm2,glo,exs,[],trs,[],false,[],[],[],[],[]⟩ b2a (defBody (top 57))=true:=by decide+kernel
theorem cS8:scB a9G b2b (defScope (top 74))=true:=by decide+kernel
theorem cS9:css ⟨a9G,defScope (top 74),stOf (defScope (top 74)),bm3,glo,exs,[],trs,[],false,[],[],[],[],[]⟩ b2c (defBody (top 74))=true:=by decide+kernel
theorem cT0:scB a9r b1T (defScope (top 70))=true:=by decide+kernel
theorem cT1:css ⟨a9r,defScope (top 70),stOf (defScope (top 70)),bm5,glo,exs,[],trs,[],false,[],[],[],[],[]⟩ b1U (defBody (top 70))=true:=by decide+kernel
theorem cT3:scB a9u b1V (defScope (top 71))=true:=by decide+kernel
theorem cT4:css ⟨a9u,defScope (top 71),stOf (defScope (top 71)),bm6,glo,exs,[],trs,[],false,[],[],[],[],[]⟩ b1Z (defBody (top 71))=true:=by decide+kernel
theorem cT6:scB a9J b2h (defScope (top 75))=true:=by decide+kernel
theorem cT7:css ⟨a9J,defScope (top 75),stOf (defScope (top 75)),bm7,glo,exs,[],trs,[],false,[],[],[],[],[]⟩ b2j (defBody (top 75))=true:=by decide+kernel
theorem cT9:scB bb7 b3i (defScope (top 85))=true:=by decide+kernel
theorem cU1:css ⟨bb7,defScope (top 85),stOf (defScope (top 85)),bm8,glo,exs,[],trs,[],false,[],[],[],[],[]⟩ b3k (defBody (top 85))=true:=by decide+kernel
theorem cU2:scB bc2 b3o (defScope (top 232))=true:=by decide+kernel
theorem cU4:css ⟨bc2,defScope (top 232),stOf (defScope (top 232)),bm9,glo,exs,[],trs,[],false,[],[],[],[],[]⟩ b3p (defBody (top 232))=true:=by decide+kernel
theorem cU7:scB aj6 au2 (defScope (top 226))=true:=by decide+kernel
theorem cU9:css ⟨aj6,defScope (top 226),stOf (defScope (top 226)),bn0,glo,exs,[],trs,[],false,[],[],[],[],[]⟩ aN4 (defBody (top 226))=true:=by decide+kernel
theorem cV0:scB aj6 au2 (defScope (top 174))=true:=by decide+kernel
theorem cV1:css ⟨aj6,defScope (top 174),stOf (defScope (top 174)),bn1,glo,exs,[],trs,[],false,[],[],[],[],[]⟩ aN4 (defBody (top 174))=true:=by decide+kernel
theorem cV3:scB aN5 a4s (defScope (top 180))=true:=by decide+kernel
theorem cV4:css ⟨aN5,defScope (top 180),stOf (defScope (top 180)),bn2,glo,exs,[],trs,[],false,[],[],[],[],[]⟩ bc3 (defBody (top 180))=true:=by decide+kernel
theorem cV5:scB aN5 a4s (defScope (top 185))=true:=by decide+kernel
theorem cV7:css ⟨aN5,defScope (top 185),stOf (defScope (top 185)),bn3,glo,exs,[],trs,[],false,[],[],[],[],[]⟩ bc3 (defBody (top 185))=true:=by decide+kernel
theorem cV8:scB a9S b2F (defScope (top 97))=true:=by decide+kernel
theorem cV9:css ⟨a9S,defScope (top 97),stOf (defScope (top 97)),bn4,glo,exs,[],trs,[],false,[],[],[],[],[]⟩ b2J (defBody (top 97))=true:=by decide+kernel
theorem cW0:scB a9R b2x (defScope (top 99))=true:=by decide+kernel
theorem cW1:css ⟨a9R,defScope (top 99),stOf (defScope (top 99)),bn6,glo,exs,[],trs,[],false,[],[],[],[],[]⟩ b2E (defBody (top 99))=true:=by decide+kernel
theorem cW3:scB aN7 a4y (defScope (top 193))=true:=by decide+kernel
theorem cW6:css ⟨aN7,defScope (top 193),stOf (defScope (top 193)),bn7,glo,exs,[],trs,[],false,[],[],[],[],[]⟩ bc4 (defBody (top 193))=true:=by decide+kernel
theorem cW8:scB bc5 b3s (defScope (top 123))=true:=by decide+kernel
theorem cW9:css ⟨bc5,defScope (top 123),stOf (defScope (top 123)),b5e,glo,exs,[],trs,[],false,[],[],[],[],[]⟩ b3u (defBody (top 123))=true:=by decide+kernel
theorem cX2:scB bc6 b3x (defScope (top 126))=true:=by decide+kernel
theorem cX3:css ⟨bc6,defScope (top 126),stOf (defScope (top 126)),bo1,glo,exs,[],trs,[],false,[],[],[],[],[]⟩ b3y (defBody (top 126))=true:=by decide+kernel
theorem cX5:scB a9o b1Q (defScope (top 60))=true:=by decide+kernel
theorem cX9:css ⟨a9o,defScope (top 60),stOf (defScope (top 60)),bo4,glo,exs,[],trs,[],false,[],[],[],[],[]⟩ b1S (defBody (top 60))=true:=by decide+kernel
theorem cY0:scB ax6 aO1 (defScope (top 133))=true:=by decide+kernel
theorem cY1:css ⟨ax6,defScope (top 133),stOf (defScope (top 133)),bo5,glo,exs,[],trs,[],false,[],[],[],[],[]⟩ a4B (defBody (top 133))=true:=by decide+kernel
theorem cY2:scB bd2 b3B (defScope (top 136))=true:=by decide+kernel
theorem cY3:css ⟨bd2,defScope (top 136),stOf (defScope (top 136)),bo6,glo,exs,[],trs,[],false,[],[],[],[],[]⟩ b3E (defBody (top 136))=true:=by decide+kernel
theorem cY4:scB bd5 b3K (defScope (top 233))=true:=by decide+kernel
theorem cY5:css ⟨bd5,defScope (top 233),stOf (defScope (top 233)),bo7,glo,exs,[],trs,[],false,[],[],[],[],[]⟩ b3L (defBody (top 233))=true:=by decide+kernel
theorem cY6:scB aj6 au2 (defScope (top 235))=true:=by decide+kernel
theorem cY7:css ⟨aj6,defScope (top 235),stOf (defScope (top 235)),bo9,glo,exs,[],trs,[],false,[],[],[],[],[]⟩ aN4 (defBody (top 235))=true:=by decide+kernel
theorem cY8:scB aj6 au2 (defScope (top 176))=true:=by decide+kernel
theorem cY9:css ⟨aj6,defScope (top 176),stOf (defScope (top 176)),bp0,glo,exs,[],trs,[],false,[],[],[],[],[]⟩ aN4 (defBody (top 176))=true:=by decide+kernel
theorem cZ0:scB bd7 b3M (defScope (top 175))=true:=by decide+kernel
theorem cZ1:css ⟨bd7,defScope (top 175),stOf (defScope (top 175)),bp1,glo,exs,[],trs,[],false,[],[],[],[],[]⟩ b3O (defBody (top 175))=true:=by decide+kernel
theorem cZ3:scB be1 b3R (defScope (top 177))=true:=by decide+kernel
theorem cZ4:css ⟨be1,defScope (top 177),stOf (defScope (top 177)),bp3,glo,exs,[],trs,[],false,[],[],[],[],[]⟩ b3S (defBody (top 177))=true:=by decide+kernel
theorem cZ5:scB be4 b3U (defScope (top 184))=true:=by decide+kernel
theorem cZ6:css ⟨be4,defScope (top 184),stOf (defScope (top 184)),bp4,glo,exs,[],trs,[],false,[],[],[],[],[]⟩ b3V (defBody (top 184))=true:=by decide+kernel
theorem cZ7:scB aj6 au2 (defScope (top 130))=true:=by decide+kernel
theorem cZ8:css ⟨aj6,defScope (top 130),stOf (defScope (top 130)),bq0,glo,exs,[],trs,[],false,[],[],[],[],[]⟩ aN4 (defBody (top 130))=true:=by decide+kernel
theorem cZ9:scB aO4 b3W (defScope (top 242))=true:=by decide+kernel
theorem c0a:aA7 ⟨aO4,defScope (top 242),stOf (defScope (top 242)),aP8,glo,exs,[],[],[],false,[],[],[],[],[]⟩ "_law_all" "calls" be5 (defBody (top 242))=true:=by decide+kernel
theorem c0b:ap9 ⟨aO4,defScope (top 242),stOf (defScope (top 242)),aP8,glo,exs,[],[],[],false,[],[],[],[],[]⟩ 6 "calls"=true:=by decide+kernel
theorem c0c:an3 ⟨aO4,defScope (top 242),stOf (defScope (top 242)),aP8,glo,exs,[],[],[],false,[],[],[],[],[]⟩ 6 "calls"=true:=by decide+kernel
theorem c0d:glB ⟨aO4,defScope (top 242),stOf (defScope (top 242)),aP8,glo,exs,[],[],[],false,[],[],[],[],[]⟩ "_law_all"=true:=by decide+kernel
theorem c0e:scB be7 b3Z (defScope (top 63))=true:=by decide+kernel
theorem c0h:css ⟨be7,defScope (top 63),stOf (defScope (top 63)),bq1,glo,exs,[],trs,[],false,[],[],[],[],[]⟩ b30 (defBody (top 63))=true:=by decide+kernel
theorem c0j:scB a9x b11 (defScope (top 72))=true:=by decide+kernel
theorem c0k:css ⟨a9x,defScope (top 72),stOf (defScope (top 72)),bq2,glo,exs,[],trs,[],false,[],[],[],[],[]⟩ b12 (defBody (top 72))=true:=by decide+kernel
theorem c0l:scB a9C b15 (defScope (top 73))=true:=by decide+kernel
theorem c0m:css ⟨a9C,defScope (top 73),stOf (defScope (top 73)),bq6,glo,exs,[],trs,[],false,[],[],[],[],[]⟩ b17 (defBody (top 73))=true:=by decide+kernel
theorem c0o:scB a9L b2m (defScope (top 77))=true:=by decide+kernel
theorem c0p:css ⟨a9L,defScope (top 77),stOf (defScope (top 77)),bq7,glo,exs,[],trs,[],false,[],[],[],[],[]⟩ b2n (defBody (top 77))=true:=by decide+kernel
theorem c0r:scB a90 b2P (defScope (top 83))=true:=by decide+kernel
theorem c0s:css ⟨a90,defScope (top 83),stOf (defScope (top 83)),bq9,glo,exs,[],trs,[],false,[],[],[],[],[]⟩ b2Q (defBody (top 83))=true:=by decide+kernel
theorem c0u:scB be8 b32 (defScope (top 84))=true:=by decide+kernel
theorem c0w:css ⟨be8,defScope (top 84),stOf (defScope (top 84)),br0,glo,exs,[],trs,[],false,[],[],[],[],[]⟩ b33 (defBody (top 84))=true:=by decide+kernel
theorem c0y:scB bf0 b34 (defScope (top 90))=true:=by decide+kernel
theorem c0A:css ⟨bf0,defScope (top 90),stOf (defScope (top 90)),br2,glo,exs,[],trs,[],false,[],[],[],[],[]⟩ b35 (defBody (top 90))=true:=by decide+kernel
theorem c0B:scB a9T b2K (defScope (top 100))=true:=by decide+kernel
theorem c0D:css ⟨a9T,defScope (top 100),stOf (defScope (top 100)),br3,glo,exs,[],trs,[],false,[],[],[],[],[]⟩ b2L (defBody (top 100))=true:=by decide+kernel
theorem c0F:scB bf1 b36 (defScope (top 104))=true:=by decide+kernel
theorem c0I:css ⟨bf1,defScope (top 104),stOf (defScope (top 104)),br4,glo,exs,[],trs,[],false,[],[],[],[],[]⟩ b37 (defBody (top 104))=true:=by decide+kernel
theorem c0J:scB bf2 b38 (defScope (top 107))=true:=by decide+kernel
theorem c0K:css ⟨bf2,defScope (top 107),stOf (defScope (top 107)),br6,glo,exs,[],trs,[],false,[],[],[],[],[]⟩ b4a (defBody (top 107))=true:=by decide+kernel
theorem c0M:scB bf4 b4d (defScope (top 108))=true:=by decide+kernel
theorem c0N:css ⟨bf4,defScope (top 108),stOf (defScope (top 108)),br7,glo,exs,[],trs,[],false,[],[],[],[],[]⟩ b4e (defBody (top 108))=true:=by decide+kernel
theorem c0O:scB bf7 b4f (defScope (top 122))=true:=by decide+kernel
theorem c0Q:css ⟨bf7,defScope (top 122),stOf (defScope (top 122)),br8,glo,exs,[],trs,[],false,[],[],[],[],[]⟩ b4i (defBody (top 122))=true:=by decide+kernel
theorem c0R:scB a9I b2d (defScope (top 76))=true:=by decide+kernel
theorem c0S:css ⟨a9I,defScope (top 76),stOf (defScope (top 76)),br9,glo,exs,[],trs,[],false,[],[],[],[],[]⟩ b2e (defBody (top 76))=true:=by decide+kernel
theorem c0T:scB ax6 aO1 (defScope (top 79))=true:=by decide+kernel
theorem c0U:css ⟨ax6,defScope (top 79),stOf (defScope (top 79)),bs0,glo,exs,[],trs,[],false,[],[],[],[],[]⟩ a4B (defBody (top 79))=true:=by decide+kernel
theorem c0V:scB a92 b2S (defScope (top 61))=true:=by decide+kernel
theorem c0W:css ⟨a92,defScope (top 61),stOf (defScope (top 61)),bs1,glo,exs,[],trs,[],false,[],[],[],[],[]⟩ b2T (defBody (top 61))=true:=by decide+kernel
theorem c0Y:scB bg0 b4j (defScope (top 87))=true:=by decide+kernel
theorem c0Z:css ⟨bg0,defScope (top 87),stOf (defScope (top 87)),bs3,glo,exs,[],trs,[],false,[],[],[],[],[]⟩ b4l (defBody (top 87))=true:=by decide+kernel
theorem c01:scB ax6 aO1 (defScope (top 183))=true:=by decide+kernel
theorem c02:css ⟨ax6,defScope (top 183),stOf (defScope (top 183)),bs4,glo,exs,[],trs,[],false,[],[],[],[],[]⟩ a4B (defBody (top 183))=true:=by decide+kernel
theorem c03:scB bg2 b4o (defScope (top 80))=true:=by decide+kernel
theorem c04:css ⟨bg2,defScope (top 80),stOf (defScope (top 80)),bs5,glo,exs,[],trs,[],false,[],[],[],[],[]⟩ b4q (defBody (top 80))=true:=by decide+kernel
theorem c05:scB aO7 b4t (defScope (top 243))=true:=by decide+kernel
theorem c07:aA7 ⟨aO7,defScope (top 243),stOf (defScope (top 243)),aP9,glo,exs,[],[],[],false,[],[],[],[],[]⟩ "_law_all" "calls" bg6 (defBody (top 243))=true:=by decide+kernel
theorem c08:ap9 ⟨aO7,defScope (top 243),stOf (defScope (top 243)),aP9,glo,exs,[],[],[],false,[],[],[],[],[]⟩ 6 "calls"=true:=by decide+kernel
theorem c1a:an3 ⟨aO7,defScope (top 243),stOf (defScope (top 243)),aP9,glo,exs,[],[],[],false,[],[],[],[],[]⟩ 6 "calls"=true:=by decide+kernel
theorem c1b:glB ⟨aO7,defScope (top 243),stOf (defScope (top 243)),aP9,glo,exs,[],[],[],false,[],[],[],[],[]⟩ "_law_all"=true:=by decide+kernel
theorem c1c:scB bh1 b4u (defScope (top 236))=true:=by decide+kernel
theorem c1d:css ⟨bh1,defScope (top 236),stOf (defScope (top 236)),bs9,glo,exs,[],trs,[],false,[],[],[],[],[]⟩ b4v (defBody (top 236))=true:=by decide+kernel
theorem c1e:scB bh3 b4w (defScope (top 197))=true:=by decide+kernel
theorem c1f:css ⟨bh3,defScope (top 197),stOf (defScope (top 197)),bt4,glo,exs,[],trs,[],false,[],[],[],[],[]⟩ b4x (defBody (top 197))=true:=by decide+kernel
theorem c1h:scB bh5 b4y (defScope (top 195))=true:=by decide+kernel
theorem c1i:css ⟨bh5,defScope (top 195),stOf (defScope (top 195)),bt5,glo,exs,[],trs,[],false,[],[],[],[],[]⟩ b4z (defBody (top 195))=true:=by decide+kernel
theorem c1j:scB bh6 b4A (defScope (top 209))=true:=by decide+kernel
theorem c1k:css ⟨bh6,defScope (top 209),stOf (defScope (top 209)),bt6,glo,exs,[],trs,[],true,[],[],[],[],[]⟩ b4B (defBody (top 209))=true:=by decide+kernel
theorem c1m:scB aO9 a5f (defScope (top 206))=true:=by decide+kernel
theorem c1p:css ⟨aO9,defScope (top 206),stOf (defScope (top 206)),b5f,glo,exs,[],trs,[],false,[],[],[],[],[]⟩ bh7 (defBody (top 206))=true:=by decide+kernel
theorem c1q:scB b4C b4D (defScope (top 210))=true:=by decide+kernel
theorem c1t:scB bi3 b4E (defScope (top 194))=true:=by decide+kernel
theorem c1u:css ⟨bi3,defScope (top 194),stOf (defScope (top 194)),bt7,glo,exs,[],trs,[],false,[],[],[],[],[]⟩ b4J (defBody (top 194))=true:=by decide+kernel
theorem c1v:scB bi5 b4M (defScope (top 211))=true:=by decide+kernel
theorem c1w:css ⟨bi5,defScope (top 211),stOf (defScope (top 211)),bt8,glo,exs,[],trs,[],false,[],[],[],[],[]⟩ b4N (defBody (top 211))=true:=by decide+kernel
theorem c1y:scB bi9 b4O (defScope (top 213))=true:=by decide+kernel
theorem c1B:css ⟨bi9,defScope (top 213),stOf (defScope (top 213)),bu0,glo,exs,[],trs,[],false,[],[],[],[],[]⟩ b4U (defBody (top 213))=true:=by decide+kernel
theorem c1C:scB aN7 a4y (defScope (top 135))=true:=by decide+kernel
theorem c1E:css ⟨aN7,defScope (top 135),stOf (defScope (top 135)),bu2,glo,exs,[],trs,[],false,[],[],[],[],[]⟩ bc4 (defBody (top 135))=true:=by decide+kernel
theorem c1H:scB aO9 a5f (defScope (top 208))=true:=by decide+kernel
theorem c1I:css ⟨aO9,defScope (top 208),stOf (defScope (top 208)),b5h,glo,exs,[],trs,[],false,[],[],[],[],[]⟩ bh7 (defBody (top 208))=true:=by decide+kernel
theorem c1L:scB b4C b4D (defScope (top 212))=true:=by decide+kernel
theorem c1M:scB bj0 b4V (defScope (top 131))=true:=by decide+kernel
theorem c1O:css ⟨bj0,defScope (top 131),stOf (defScope (top 131)),bu3,glo,exs,[],trs,[],false,[],[],[],[],[]⟩ b41 (defBody (top 131))=true:=by decide+kernel
theorem c1Q:scB aP0 b43 (defScope (top 244))=true:=by decide+kernel
theorem c1R:aA7 ⟨aP0,defScope (top 244),stOf (defScope (top 244)),aQ1,glo,exs,[],[],[],false,[],[],[],[],[]⟩ "_law_all" "calls" bj3 (defBody (top 244))=true:=by decide+kernel
theorem c1T:ap9 ⟨aP0,defScope (top 244),stOf (defScope (top 244)),aQ1,glo,exs,[],[],[],false,[],[],[],[],[]⟩ 6 "calls"=true:=by decide+kernel
theorem c1U:an3 ⟨aP0,defScope (top 244),stOf (defScope (top 244)),aQ1,glo,exs,[],[],[],false,[],[],[],[],[]⟩ 6 "calls"=true:=by decide+kernel
theorem c1W:glB ⟨aP0,defScope (top 244),stOf (defScope (top 244)),aQ1,glo,exs,[],[],[],false,[],[],[],[],[]⟩ "_law_all"=true:=by decide+kernel
theorem c1X:scB a8P b0M (defScope (top 238))=true:=by decide+kernel
theorem c1Z:css ⟨a8P,defScope (top 238),stOf (defScope (top 238)),b5i,glo,exs,[],trs,[],false,[],[],[],[],[]⟩ a8R (defBody (top 238))=true:=by decide+kernel
theorem c10:scB aP4 cK5 (defScope (top 245))=true:=by decide+kernel
theorem c13:a8t ⟨aP4,defScope (top 245),stOf (defScope (top 245)),bu5,glo,exs,[],[],[],false,[],[],[],[],[]⟩ a5m 3 a1b (aI2.map (·.1)) (defBody (top 245))=true:=by decide+kernel
section
variable [aa0] {P:Program} {w:World} {K:Fr'} {mg:Str→Option Value} {base:Heap} {C:Nat→Addr}
theorem fn2 (pw:P=aa0.P∧w=aa0.w)(ht: ∀t∈trs,aa4 K C t)(G:Glb K mg C glo exs){f:Addr}{fd:FuncData}(F:FunD K "is_word" "is_word" (defArgs (top 32)) (defBody (top 32)) (defScope (top 32)) [] [] f fd)(hm:mg "is_word"=some (.ref f)):FnG P w K mg base C 3 "is_word" aN2:=by
 refine step (fns:=b44) (Φ:=b0H) (N:=a8M) (ps:=b0C) pw ht G (fun x g hl=> ?_) F sc2 ck2 hm (FunD.bindsN F fun _ _ _ _ _ _ us hl=>match us,hl with| [_],_=>rfl) (by decide)
 cases hl
theorem fn3 (pw:P=aa0.P∧w=aa0.w)(ht: ∀t∈trs,aa4 K C t)(G:Glb K mg C glo exs)(h2:FnG P w K mg base C 3 "is_word" aN2){f:Addr}{fd:FuncData}(F:FunD K "is_content" "is_content" (defArgs (top 33)) (defBody (top 33)) (defScope (top 33)) [] [] f fd)(hm:mg "is_content"=some (.ref f)):FnG P w K mg base C 4 "is_content" aB0:=by
 refine step (fns:=bj4) (Φ:=a8O) (N:=a8N) (ps:=b0K) pw ht G (fun x g hl=> ?_) F sc3 ck3 hm (FunD.bindsN F fun _ _ _ _ _ _ us hl=>match us,hl with| [_],_=>rfl) (by decide)
 have hmem:=aa8 hl
 simp only[bj4,List.mem_cons,Prod.mk.injEq,List.not_mem_nil,or_false]at hmem
 rcases hmem with⟨rfl,rfl⟩
 ·exact h2
theorem fn4 (pw:P=aa0.P∧w=aa0.w)(ht: ∀t∈trs,aa4 K C t)(G:Glb K mg C glo exs)(h3:FnG P w K mg base C 4 "is_content" aB0){f:Addr}{fd:FuncData}(F:FunD K "check_content" "check_content" (defArgs (top 34)) (defBody (top 34)) (defScope (top 34)) [] [] f fd)(hm:mg "check_content"=some (.ref f)):FnG P w K mg base C 5 "check_content" al1:=by
 refine step (fns:=bj5) (Φ:=a8U) (N:=a8S) (ps:=b0Q) pw ht G (fun x g hl=> ?_) F sc4 ck4 hm (FunD.bindsN F fun _ _ _ _ _ _ us hl=>match us,hl with| [_],_=>rfl) (by decide)
 have hmem:=aa8 hl
 simp only[bj5,List.mem_cons,Prod.mk.injEq,List.not_mem_nil,or_false]at hmem
 rcases hmem with⟨rfl,rfl⟩
 ·exact h3
theorem fn5 (pw:P=aa0.P∧w=aa0.w)(ht: ∀t∈trs,aa4 K C t)(G:Glb K mg C glo exs){f:Addr}{fd:FuncData}(F:FunD K "have_word" "have_word" (defArgs (top 35)) (defBody (top 35)) (defScope (top 35)) [] [] f fd)(hm:mg "have_word"=some (.ref f)):FnG P w K mg base C 6 "have_word" aW9:=by
 refine step (fns:=b47) (Φ:=b0W) (N:=a8W) (ps:=b0U) pw ht G (fun x g hl=> ?_) F sc5 ck5 hm (FunD.bindsN F fun _ _ _ _ _ _ us hl=>match us,hl with| [_,_],_=>rfl) (by decide)
 cases hl
theorem fn6 (pw:P=aa0.P∧w=aa0.w)(ht: ∀t∈trs,aa4 K C t)(G:Glb K mg C glo exs){f:Addr}{fd:FuncData}(F:FunD K "have_near" "have_near" (defArgs (top 36)) (defBody (top 36)) (defScope (top 36)) [] [] f fd)(hm:mg "have_near"=some (.ref f)):FnG P w K mg base C 7 "have_near" aX0:=by
 refine step (fns:=b48) (Φ:=b0Z) (N:=a8Y) (ps:=b0X) pw ht G (fun x g hl=> ?_) F sc6 ck6 hm (FunD.bindsN F fun _ _ _ _ _ _ us hl=>match us,hl with| [_,_],_=>rfl) (by decide)
 cases hl
theorem fn7 (pw:P=aa0.P∧w=aa0.w)(ht: ∀t∈trs,aa4 K C t)(G:Glb K mg C glo exs)(h5:FnG P w K mg base C 7 "have_word" aW9)(h6:FnG P w K mg base C 7 "have_near" aX0){f:Addr}{fd:FuncData}(F:FunD K "does_hold" "does_hold" (defArgs (top 37)) (defBody (top 37)) (defScope (top 37)) [] [] f fd)(hm:mg "does_hold"=some (.ref f)):FnG P w K mg base C 8 "does_hold" aB3:=by
 refine step (fns:=bj8) (Φ:=a3C) (N:=a8Z) (ps:=b02) pw ht G (fun x g hl=> ?_) F sc7 ck7 hm (FunD.bindsN F fun _ _ _ _ _ _ us hl=>match us,hl with| [_,_,_],_=>rfl) (by decide)
 have hmem:=aa8 hl
 simp only[bj8,List.mem_cons,Prod.mk.injEq,List.not_mem_nil,or_false]at hmem
 rcases hmem with⟨rfl,rfl⟩|⟨rfl,rfl⟩
 ·exact h5
 ·exact h6
theorem fn8 (pw:P=aa0.P∧w=aa0.w)(ht: ∀t∈trs,aa4 K C t)(G:Glb K mg C glo exs)(h4:FnG P w K mg base C 8 "check_content" al1)(h7:FnG P w K mg base C 8 "does_hold" aB3){f:Addr}{fd:FuncData}(F:FunD K "holds" "holds" (defArgs (top 38)) (defBody (top 38)) (defScope (top 38)) [] [] f fd)(hm:mg "holds"=some (.ref f)):FnG P w K mg base C 9 "holds" aX2:=by
 refine step (fns:=bk0) (Φ:=a3D) (N:=a80) (ps:=b1c) pw ht G (fun x g hl=> ?_) F sc8 ck8 hm (FunD.bindsN F fun _ _ _ _ _ _ us hl=>match us,hl with| [_,_,_],_=>rfl) (by decide)
 have hmem:=aa8 hl
 simp only[bk0,List.mem_cons,Prod.mk.injEq,List.not_mem_nil,or_false]at hmem
 rcases hmem with⟨rfl,rfl⟩|⟨rfl,rfl⟩
 ·exact h4
 ·exact h7
theorem fn9 (pw:P=aa0.P∧w=aa0.w)(ht: ∀t∈trs,aa4 K C t)(G:Glb K mg C glo exs)(h4:FnG P w K mg base C 9 "check_content" al1){f:Addr}{fd:FuncData}(F:FunD K "merge_contents" "merge_contents" (defArgs (top 41)) (defBody (top 41)) (defScope (top 41)) [] [] f fd)(hm:mg "merge_contents"=some (.ref f)):FnG P w K mg base C 10 "merge_contents" a0e:=by
 refine step (fns:=bk2) (Φ:=ba0) (N:=a97) (ps:=b2X) pw ht G (fun x g hl=> ?_) F sc9 ck9 hm (FunD.bindsN F fun _ _ _ _ _ _ us hl=>match us,hl with| [_,_,_],_=>rfl) (by decide)
 have hmem:=aa8 hl
 simp only[bk2,List.mem_cons,Prod.mk.injEq,List.not_mem_nil,or_false]at hmem
 rcases hmem with⟨rfl,rfl⟩
 ·exact h4
theorem c14 (pw:P=aa0.P∧w=aa0.w)(ht: ∀t∈trs,aa4 K C t)(G:Glb K mg C glo exs){f:Addr}{fd:FuncData}(F:FunD K "is_rising" "is_rising" (defArgs (top 49)) (defBody (top 49)) (defScope (top 49)) [] [] f fd)(hm:mg "is_rising"=some (.ref f)):FnG P w K mg base C 11 "is_rising" al7:=by
 refine step (fns:=b5b) (Φ:=b1l) (N:=a81) (ps:=b1f) pw ht G (fun x g hl=> ?_) F cL2 cL7 hm (FunD.bindsN F fun _ _ _ _ _ _ us hl=>match us,hl with| [_],_=>rfl) (by decide)
 cases hl
theorem c15 (pw:P=aa0.P∧w=aa0.w)(ht: ∀t∈trs,aa4 K C t)(G:Glb K mg C glo exs){f:Addr}{fd:FuncData}(F:FunD K "is_int" "is_int" (defArgs (top 48)) (defBody (top 48)) (defScope (top 48)) [] [] f fd)(hm:mg "is_int"=some (.ref f)):FnG P w K mg base C 12 "is_int" ah8:=by
 refine step (fns:=b5c) (Φ:=b1p) (N:=a82) (ps:=b1n) pw ht G (fun x g hl=> ?_) F cL8 cL9 hm (FunD.bindsN F fun _ _ _ _ _ _ us hl=>match us,hl with| [_,_,_],_=>rfl) (by decide)
 cases hl
theorem c17 (pw:P=aa0.P∧w=aa0.w)(ht: ∀t∈trs,aa4 K C t)(G:Glb K mg C glo exs)(h11:FnG P w K mg base C 12 "is_int" ah8){f:Addr}{fd:FuncData}(F:FunD K "is_test" "is_test" (defArgs (top 50)) (defBody (top 50)) (defScope (top 50)) [] [] f fd)(hm:mg "is_test"=some (.ref f)):FnG P w K mg base C 13 "is_test" aX3:=by
 refine step (fns:=bk3) (Φ:=a86) (N:=a83) (ps:=b1q) pw ht G (fun x g hl=> ?_) F cM0 cM4 hm (FunD.bindsN F fun _ _ _ _ _ _ us hl=>match us,hl with| [_,_],_=>rfl) (by decide)
 have hmem:=aa8 hl
 simp only[bk3,List.mem_cons,Prod.mk.injEq,List.not_mem_nil,or_false]at hmem
 rcases hmem with⟨rfl,rfl⟩
 ·exact h11
theorem c18 (pw:P=aa0.P∧w=aa0.w)(ht: ∀t∈trs,aa4 K C t)(G:Glb K mg C glo exs)(h10:FnG P w K mg base C 13 "is_rising" al7)(h12:FnG P w K mg base C 13 "is_test" aX3){f:Addr}{fd:FuncData}(F:FunD K "are_tests" "are_tests" (defArgs (top 51)) (defBody (top 51)) (defScope (top 51)) [] [] f fd)(hm:mg "are_tests"=some (.ref f)):FnG P w K mg base C 14 "are_tests" aX4:=by
 refine step (fns:=bk4) (Φ:=a3E) (N:=a87) (ps:=b1s) pw ht G (fun x g hl=> ?_) F cM6 cM9 hm (FunD.bindsN F fun _ _ _ _ _ _ us hl=>match us,hl with| [_,_,_],_=>rfl) (by decide)
 have hmem:=aa8 hl
 simp only[bk4,List.mem_cons,Prod.mk.injEq,List.not_mem_nil,or_false]at hmem
 rcases hmem with⟨rfl,rfl⟩|⟨rfl,rfl⟩
 ·exact h10
 ·exact h12
theorem c2a (pw:P=aa0.P∧w=aa0.w)(ht: ∀t∈trs,aa4 K C t)(G:Glb K mg C glo exs){f:Addr}{fd:FuncData}(F:FunD K "are_kinds" "are_kinds" (defArgs (top 52)) (defBody (top 52)) (defScope (top 52)) [] [] f fd)(hm:mg "are_kinds"=some (.ref f)):FnG P w K mg base C 15 "are_kinds" aY0:=by
 refine step (fns:=b5d) (Φ:=b1z) (N:=a9a) (ps:=b1x) pw ht G (fun x g hl=> ?_) F cN0 cN1 hm (FunD.bindsN F fun _ _ _ _ _ _ us hl=>match us,hl with| [_],_=>rfl) (by decide)
 cases hl
theorem c2c (pw:P=aa0.P∧w=aa0.w)(ht: ∀t∈trs,aa4 K C t)(G:Glb K mg C glo exs)(h13:FnG P w K mg base C 15 "are_tests" aX4)(h14:FnG P w K mg base C 15 "are_kinds" aY0)(h10:FnG P w K mg base C 15 "is_rising" al7){f:Addr}{fd:FuncData}(F:FunD K "is_plan" "is_plan" (defArgs (top 53)) (defBody (top 53)) (defScope (top 53)) [] [] f fd)(hm:mg "is_plan"=some (.ref f)):FnG P w K mg base C 16 "is_plan" aY3:=by
 refine step (fns:=bk5) (Φ:=aY1) (N:=a9b) (ps:=b1B) pw ht G (fun x g hl=> ?_) F cN2 cN5 hm (FunD.bindsN F fun _ _ _ _ _ _ us hl=>match us,hl with| [_],_=>rfl) (by decide)
 have hmem:=aa8 hl
 simp only[bk5,List.mem_cons,Prod.mk.injEq,List.not_mem_nil,or_false]at hmem
 rcases hmem with⟨rfl,rfl⟩|⟨rfl,rfl⟩|⟨rfl,rfl⟩
 ·exact h13
 ·exact h14
 ·exact h10
theorem c2d (pw:P=aa0.P∧w=aa0.w)(ht: ∀t∈trs,aa4 K C t)(G:Glb K mg C glo exs)(h15:FnG P w K mg base C 16 "is_plan" aY3){f:Addr}{fd:FuncData}(F:FunD K "check_plan" "check_plan" (defArgs (top 54)) (defBody (top 54)) (defScope (top 54)) [] [] f fd)(hm:mg "check_plan"=some (.ref f)):FnG P w K mg base C 17 "check_plan" aa5:=by
 refine step (fns:=bk6) (Φ:=a9e) (N:=a9d) (ps:=b1E) pw ht G (fun x g hl=> ?_) F cN7 cN8 hm (FunD.bindsN F fun _ _ _ _ _ _ us hl=>match us,hl with| [_],_=>rfl) (by decide)
 have hmem:=aa8 hl
 simp only[bk6,List.mem_cons,Prod.mk.injEq,List.not_mem_nil,or_false]at hmem
 rcases hmem with⟨rfl,rfl⟩
 ·exact h15
theorem c2f (pw:P=aa0.P∧w=aa0.w)(ht: ∀t∈trs,aa4 K C t)(G:Glb K mg C glo exs)(h4:FnG P w K mg base C 17 "check_content" al1){f:Addr}{fd:FuncData}(F:FunD K "few_entries" "few_entries" (defArgs (top 217)) (defBody (top 217)) (defScope (top 217)) [] [] f fd)(hm:mg "few_entries"=some (.ref f)):FnG P w K mg base C 18 "few_entries" aC5:=by
 refine step (fns:=bk7) (Φ:=ba3) (N:=ba1) (ps:=b22) pw ht G (fun x g hl=> ?_) F cN9 cO2 hm (FunD.bindsN F fun _ _ _ _ _ _ us hl=>match us,hl with| [_,_,_],_=>rfl) (by decide)
 have hmem:=aa8 hl
 simp only[bk7,List.mem_cons,Prod.mk.injEq,List.not_mem_nil,or_false]at hmem
 rcases hmem with⟨rfl,rfl⟩
 ·exact h4
theorem c2j (pw:P=aa0.P∧w=aa0.w)(ht: ∀t∈trs,aa4 K C t)(G:Glb K mg C glo exs)(h16:FnG P w K mg base C 18 "check_plan" aa5)(h17:FnG P w K mg base C 18 "few_entries" aC5){f:Addr}{fd:FuncData}(F:FunD K "naive_three" "naive_three" (defArgs (top 219)) (defBody (top 219)) (defScope (top 219)) [] [] f fd)(hm:mg "naive_three"=some (.ref f)):FnG P w K mg base C 19 "naive_three" a0h:=by
 refine step (fns:=bk8) (Φ:=a4d) (N:=ba6) (ps:=b24) pw ht G (fun x g hl=> ?_) F cO3 cO4 hm (FunD.bindsN F fun _ _ _ _ _ _ us hl=>match us,hl with| [_,_],_=>rfl) (by decide)
 have hmem:=aa8 hl
 simp only[bk8,List.mem_cons,Prod.mk.injEq,List.not_mem_nil,or_false]at hmem
 rcases hmem with⟨rfl,rfl⟩|⟨rfl,rfl⟩
 ·exact h16
 ·exact h17
theorem c2k (pw:P=aa0.P∧w=aa0.w)(ht: ∀t∈trs,aa4 K C t)(G:Glb K mg C glo exs)(h11:FnG P w K mg base C 19 "is_int" ah8){f:Addr}{fd:FuncData}(F:FunD K "is_part" "is_part" (defArgs (top 95)) (defBody (top 95)) (defScope (top 95)) [] [] f fd)(hm:mg "is_part"=some (.ref f)):FnG P w K mg base C 20 "is_part" aY9:=by
 refine step (fns:=bk9) (Φ:=a9N) (N:=a9M) (ps:=b2o) pw ht G (fun x g hl=> ?_) F cO5 cO8 hm (FunD.bindsN F fun _ _ _ _ _ _ us hl=>match us,hl with| [_,_],_=>rfl) (by decide)
 have hmem:=aa8 hl
 simp only[bk9,List.mem_cons,Prod.mk.injEq,List.not_mem_nil,or_false]at hmem
 rcases hmem with⟨rfl,rfl⟩
 ·exact h11
theorem c2n (pw:P=aa0.P∧w=aa0.w)(ht: ∀t∈trs,aa4 K C t)(G:Glb K mg C glo exs)(h10:FnG P w K mg base C 20 "is_rising" al7)(h19:FnG P w K mg base C 20 "is_part" aY9){f:Addr}{fd:FuncData}(F:FunD K "has_key" "has_key" (defArgs (top 96)) (defBody (top 96)) (defScope (top 96)) [] [] f fd)(hm:mg "has_key"=some (.ref f)):FnG P w K mg base C 21 "has_key" aq2:=by
 refine step (fns:=bl0) (Φ:=a3S) (N:=a9O) (ps:=b2r) pw ht G (fun x g hl=> ?_) F cO9 cP1 hm (FunD.bindsN F fun _ _ _ _ _ _ us hl=>match us,hl with| [_,_],_=>rfl) (by decide)
 have hmem:=aa8 hl
 simp only[bl0,List.mem_cons,Prod.mk.injEq,List.not_mem_nil,or_false]at hmem
 rcases hmem with⟨rfl,rfl⟩|⟨rfl,rfl⟩
 ·exact h10
 ·exact h19
theorem c2o (pw:P=aa0.P∧w=aa0.w)(ht: ∀t∈trs,aa4 K C t)(G:Glb K mg C glo exs)(h10:FnG P w K mg base C 21 "is_rising" al7)(h20:FnG P w K mg base C 21 "has_key" aq2){f:Addr}{fd:FuncData}(F:FunD K "have_keys" "have_keys" (defArgs (top 98)) (defBody (top 98)) (defScope (top 98)) [] [] f fd)(hm:mg "have_keys"=some (.ref f)):FnG P w K mg base C 22 "have_keys" aC3:=by
 refine step (fns:=bl3) (Φ:=a3T) (N:=a9Q) (ps:=b2v) pw ht G (fun x g hl=> ?_) F cP2 cP3 hm (FunD.bindsN F fun _ _ _ _ _ _ us hl=>match us,hl with| [_,_],_=>rfl) (by decide)
 have hmem:=aa8 hl
 simp only[bl3,List.mem_cons,Prod.mk.injEq,List.not_mem_nil,or_false]at hmem
 rcases hmem with⟨rfl,rfl⟩|⟨rfl,rfl⟩
 ·exact h10
 ·exact h20
theorem c2s (pw:P=aa0.P∧w=aa0.w)(ht: ∀t∈trs,aa4 K C t)(G:Glb K mg C glo exs)(h21:FnG P w K mg base C 22 "have_keys" aC3){f:Addr}{fd:FuncData}(F:FunD K "check_keys" "check_keys" (defArgs (top 101)) (defBody (top 101)) (defScope (top 101)) [] [] f fd)(hm:mg "check_keys"=some (.ref f)):FnG P w K mg base C 23 "check_keys" af6:=by
 refine step (fns:=bl4) (Φ:=a9Z) (N:=a9V) (ps:=b2M) pw ht G (fun x g hl=> ?_) F cP4 cQ0 hm (FunD.bindsN F fun _ _ _ _ _ _ us hl=>match us,hl with| [_,_],_=>rfl) (by decide)
 have hmem:=aa8 hl
 simp only[bl4,List.mem_cons,Prod.mk.injEq,List.not_mem_nil,or_false]at hmem
 rcases hmem with⟨rfl,rfl⟩
 ·exact h21
theorem c2u (pw:P=aa0.P∧w=aa0.w)(ht: ∀t∈trs,aa4 K C t)(G:Glb K mg C glo exs)(h16:FnG P w K mg base C 23 "check_plan" aa5)(h22:FnG P w K mg base C 23 "check_keys" af6)(h17:FnG P w K mg base C 23 "few_entries" aC5){f:Addr}{fd:FuncData}(F:FunD K "naive_missed" "naive_missed" (defArgs (top 220)) (defBody (top 220)) (defScope (top 220)) [] [] f fd)(hm:mg "naive_missed"=some (.ref f)):FnG P w K mg base C 24 "naive_missed" aC9:=by
 refine step (fns:=bl5) (Φ:=a0i) (N:=ba8) (ps:=b26) pw ht G (fun x g hl=> ?_) F cQ2 cQ4 hm (FunD.bindsN F fun _ _ _ _ _ _ us hl=>match us,hl with| [_,_,_],_=>rfl) (by decide)
 have hmem:=aa8 hl
 simp only[bl5,List.mem_cons,Prod.mk.injEq,List.not_mem_nil,or_false]at hmem
 rcases hmem with⟨rfl,rfl⟩|⟨rfl,rfl⟩|⟨rfl,rfl⟩
 ·exact h16
 ·exact h22
 ·exact h17
theorem c2v (pw:P=aa0.P∧w=aa0.w)(ht: ∀t∈trs,aa4 K C t)(G:Glb K mg C glo exs)(h16:FnG P w K mg base C 24 "check_plan" aa5)(h4:FnG P w K mg base C 24 "check_content" al1){f:Addr}{fd:FuncData}(F:FunD K "all_entries" "all_entries" (defArgs (top 68)) (defBody (top 68)) (defScope (top 68)) [] [] f fd)(hm:mg "all_entries"=some (.ref f)):FnG P w K mg base C 25 "all_entries" a0k:=by
 refine step (fns:=bl6) (Φ:=a4f) (N:=bb0) (ps:=b3a) pw ht G (fun x g hl=> ?_) F cQ5 cQ7 hm (FunD.bindsN F fun _ _ _ _ _ _ us hl=>match us,hl with| [_,_],_=>rfl) (by decide)
 have hmem:=aa8 hl
 simp only[bl6,List.mem_cons,Prod.mk.injEq,List.not_mem_nil,or_false]at hmem
 rcases hmem with⟨rfl,rfl⟩|⟨rfl,rfl⟩
 ·exact h16
 ·exact h4
theorem c2w (pw:P=aa0.P∧w=aa0.w)(G:Glb K mg C glo exs)(h8:FnG P w K mg base C 25 "holds" aX2)(h9:FnG P w K mg base C 25 "merge_contents" a0e)(h18:FnG P w K mg base C 25 "naive_three" a0h)(h23:FnG P w K mg base C 25 "naive_missed" aC9)(h24:FnG P w K mg base C 25 "all_entries" a0k){f:Addr}{fd:FuncData}(F:FunD K "_law_first" "_law_first" (defArgs (top 241)) (defBody (top 241)) (defScope (top 241)) [] [] f fd)(hm:mg "_law_first"=some (.ref f))(hT:aM3 base mg "_law_first" fd)(AA: ∀X:Cx,X.K=K→X.mg=mg→at8 X C "_law_all" (nmE au1)):FnG P w K mg base C 28 "_law_first" a4k:=by
 refine a3v (lv:=25) (fns:=aP7) (Φ:=aH9) (N:=aN3) (ps:=b3e) (bs:=bb1) pw G (fun x g hl=> ?_) F cQ8 cQ9 cR1 cR2 cR3 hT AA hm (FunD.bindsN F fun _ _ _ _ _ _ us hl=>match us,hl with| [_,_,_,_,_,_],_=>rfl) (by decide)
 ·have hmem:=aa8 hl
  simp only[aP7,List.mem_cons,Prod.mk.injEq,List.not_mem_nil,or_false]at hmem
  rcases hmem with⟨rfl,rfl⟩|⟨rfl,rfl⟩|⟨rfl,rfl⟩|⟨rfl,rfl⟩|⟨rfl,rfl⟩
  ·exact h8
  ·exact h9
  ·exact h18
  ·exact h23
  ·exact h24
theorem c2x (pw:P=aa0.P∧w=aa0.w)(ht: ∀t∈trs,aa4 K C t)(G:Glb K mg C glo exs)(h3:FnG P w K mg base C 28 "is_content" aB0){f:Addr}{fd:FuncData}(F:FunD K "has_entry" "has_entry" (defArgs (top 55)) (defBody (top 55)) (defScope (top 55)) [] [] f fd)(hm:mg "has_entry"=some (.ref f)):FnG P w K mg base C 29 "has_entry" aq0:=by
 refine step (fns:=bl7) (Φ:=a9j) (N:=a9f) (ps:=b1K) pw ht G (fun x g hl=> ?_) F cR6 cR7 hm (FunD.bindsN F fun _ _ _ _ _ _ us hl=>match us,hl with| [_,_],_=>rfl) (by decide)
 have hmem:=aa8 hl
 simp only[bl7,List.mem_cons,Prod.mk.injEq,List.not_mem_nil,or_false]at hmem
 rcases hmem with⟨rfl,rfl⟩
 ·exact h3
theorem c2y (pw:P=aa0.P∧w=aa0.w)(ht: ∀t∈trs,aa4 K C t)(G:Glb K mg C glo exs)(h16:FnG P w K mg base C 29 "check_plan" aa5)(h26:FnG P w K mg base C 29 "has_entry" aq0){f:Addr}{fd:FuncData}(F:FunD K "is_entry" "is_entry" (defArgs (top 56)) (defBody (top 56)) (defScope (top 56)) [] [] f fd)(hm:mg "is_entry"=some (.ref f)):FnG P w K mg base C 30 "is_entry" a0l:=by
 refine step (fns:=bl8) (Φ:=a4m) (N:=bb2) (ps:=b3f) pw ht G (fun x g hl=> ?_) F cR9 cS0 hm (FunD.bindsN F fun _ _ _ _ _ _ us hl=>match us,hl with| [_,_],_=>rfl) (by decide)
 have hmem:=aa8 hl
 simp only[bl8,List.mem_cons,Prod.mk.injEq,List.not_mem_nil,or_false]at hmem
 rcases hmem with⟨rfl,rfl⟩|⟨rfl,rfl⟩
 ·exact h16
 ·exact h26
theorem c2B (pw:P=aa0.P∧w=aa0.w)(ht: ∀t∈trs,aa4 K C t)(G:Glb K mg C glo exs)(h26:FnG P w K mg base C 30 "has_entry" aq0){f:Addr}{fd:FuncData}(F:FunD K "has_book" "has_book" (defArgs (top 58)) (defBody (top 58)) (defScope (top 58)) [] [] f fd)(hm:mg "has_book"=some (.ref f)):FnG P w K mg base C 31 "has_book" aB4:=by
 refine step (fns:=bl9) (Φ:=a9m) (N:=a9l) (ps:=b1M) pw ht G (fun x g hl=> ?_) F cS1 cS2 hm (FunD.bindsN F fun _ _ _ _ _ _ us hl=>match us,hl with| [_,_],_=>rfl) (by decide)
 have hmem:=aa8 hl
 simp only[bl9,List.mem_cons,Prod.mk.injEq,List.not_mem_nil,or_false]at hmem
 rcases hmem with⟨rfl,rfl⟩
 ·exact h26
theorem c2C (pw:P=aa0.P∧w=aa0.w)(ht: ∀t∈trs,aa4 K C t)(G:Glb K mg C glo exs)(h16:FnG P w K mg base C 31 "check_plan" aa5)(h28:FnG P w K mg base C 31 "has_book" aB4){f:Addr}{fd:FuncData}(F:FunD K "is_book" "is_book" (defArgs (top 59)) (defBody (top 59)) (defScope (top 59)) [] [] f fd)(hm:mg "is_book"=some (.ref f)):FnG P w K mg base C 32 "is_book" a0c:=by
 refine step (fns:=bm0) (Φ:=a4c) (N:=a96) (ps:=b2U) pw ht G (fun x g hl=> ?_) F cS3 cS4 hm (FunD.bindsN F fun _ _ _ _ _ _ us hl=>match us,hl with| [_,_],_=>rfl) (by decide)
 have hmem:=aa8 hl
 simp only[bm0,List.mem_cons,Prod.mk.injEq,List.not_mem_nil,or_false]at hmem
 rcases hmem with⟨rfl,rfl⟩|⟨rfl,rfl⟩
 ·exact h16
 ·exact h28
theorem c2E (pw:P=aa0.P∧w=aa0.w)(ht: ∀t∈trs,aa4 K C t)(G:Glb K mg C glo exs)(h26:FnG P w K mg base C 32 "has_entry" aq0){f:Addr}{fd:FuncData}(F:FunD K "check_entry" "check_entry" (defArgs (top 57)) (defBody (top 57)) (defScope (top 57)) [] [] f fd)(hm:mg "check_entry"=some (.ref f)):FnG P w K mg base C 33 "check_entry" af8:=by
 refine step (fns:=bm2) (Φ:=a9F) (N:=a9D) (ps:=b18) pw ht G (fun x g hl=> ?_) F cS5 cS7 hm (FunD.bindsN F fun _ _ _ _ _ _ us hl=>match us,hl with| [_,_],_=>rfl) (by decide)
 have hmem:=aa8 hl
 simp only[bm2,List.mem_cons,Prod.mk.injEq,List.not_mem_nil,or_false]at hmem
 rcases hmem with⟨rfl,rfl⟩
 ·exact h26
theorem c2H (pw:P=aa0.P∧w=aa0.w)(ht: ∀t∈trs,aa4 K C t)(G:Glb K mg C glo exs)(h16:FnG P w K mg base C 33 "check_plan" aa5)(h30:FnG P w K mg base C 33 "check_entry" af8){f:Addr}{fd:FuncData}(F:FunD K "check_two" "check_two" (defArgs (top 74)) (defBody (top 74)) (defScope (top 74)) [] [] f fd)(hm:mg "check_two"=some (.ref f)):FnG P w K mg base C 34 "check_two" ai2:=by
 refine step (fns:=bm3) (Φ:=a3H) (N:=a9G) (ps:=b2b) pw ht G (fun x g hl=> ?_) F cS8 cS9 hm (FunD.bindsN F fun _ _ _ _ _ _ us hl=>match us,hl with| [_,_,_],_=>rfl) (by decide)
 have hmem:=aa8 hl
 simp only[bm3,List.mem_cons,Prod.mk.injEq,List.not_mem_nil,or_false]at hmem
 rcases hmem with⟨rfl,rfl⟩|⟨rfl,rfl⟩
 ·exact h16
 ·exact h30
theorem c2I (pw:P=aa0.P∧w=aa0.w)(ht: ∀t∈trs,aa4 K C t)(G:Glb K mg C glo exs)(h7:FnG P w K mg base C 34 "does_hold" aB3){f:Addr}{fd:FuncData}(F:FunD K "has_test" "has_test" (defArgs (top 70)) (defBody (top 70)) (defScope (top 70)) [] [] f fd)(hm:mg "has_test"=some (.ref f)):FnG P w K mg base C 35 "has_test" aB7:=by
 refine step (fns:=bm5) (Φ:=a9s) (N:=a9r) (ps:=b1T) pw ht G (fun x g hl=> ?_) F cT0 cT1 hm (FunD.bindsN F fun _ _ _ _ _ _ us hl=>match us,hl with| [_,_,_],_=>rfl) (by decide)
 have hmem:=aa8 hl
 simp only[bm5,List.mem_cons,Prod.mk.injEq,List.not_mem_nil,or_false]at hmem
 rcases hmem with⟨rfl,rfl⟩
 ·exact h7
theorem c2K (pw:P=aa0.P∧w=aa0.w)(ht: ∀t∈trs,aa4 K C t)(G:Glb K mg C glo exs)(h32:FnG P w K mg base C 35 "has_test" aB7){f:Addr}{fd:FuncData}(F:FunD K "find_rules" "find_rules" (defArgs (top 71)) (defBody (top 71)) (defScope (top 71)) [] [] f fd)(hm:mg "find_rules"=some (.ref f)):FnG P w K mg base C 36 "find_rules" aB8:=by
 refine step (fns:=bm6) (Φ:=a9v) (N:=a9u) (ps:=b1V) pw ht G (fun x g hl=> ?_) F cT3 cT4 hm (FunD.bindsN F fun _ _ _ _ _ _ us hl=>match us,hl with| [_,_,_],_=>rfl) (by decide)
 have hmem:=aa8 hl
 simp only[bm6,List.mem_cons,Prod.mk.injEq,List.not_mem_nil,or_false]at hmem
 rcases hmem with⟨rfl,rfl⟩
 ·exact h32
theorem c2L (pw:P=aa0.P∧w=aa0.w)(ht: ∀t∈trs,aa4 K C t)(G:Glb K mg C glo exs)(h31:FnG P w K mg base C 36 "check_two" ai2)(h33:FnG P w K mg base C 36 "find_rules" aB8){f:Addr}{fd:FuncData}(F:FunD K "rules_between" "rules_between" (defArgs (top 75)) (defBody (top 75)) (defScope (top 75)) [] [] f fd)(hm:mg "rules_between"=some (.ref f)):FnG P w K mg base C 37 "rules_between" aY5:=by
 refine step (fns:=bm7) (Φ:=a3L) (N:=a9J) (ps:=b2h) pw ht G (fun x g hl=> ?_) F cT6 cT7 hm (FunD.bindsN F fun _ _ _ _ _ _ us hl=>match us,hl with| [_,_,_],_=>rfl) (by decide)
 have hmem:=aa8 hl
 simp only[bm7,List.mem_cons,Prod.mk.injEq,List.not_mem_nil,or_false]at hmem
 rcases hmem with⟨rfl,rfl⟩|⟨rfl,rfl⟩
 ·exact h31
 ·exact h33
theorem c2O (pw:P=aa0.P∧w=aa0.w)(ht: ∀t∈trs,aa4 K C t)(G:Glb K mg C glo exs)(h31:FnG P w K mg base C 37 "check_two" ai2){f:Addr}{fd:FuncData}(F:FunD K "joined" "joined" (defArgs (top 85)) (defBody (top 85)) (defScope (top 85)) [] [] f fd)(hm:mg "joined"=some (.ref f)):FnG P w K mg base C 38 "joined" a0m:=by
 refine step (fns:=bm8) (Φ:=bc1) (N:=bb7) (ps:=b3i) pw ht G (fun x g hl=> ?_) F cT9 cU1 hm (FunD.bindsN F fun _ _ _ _ _ _ us hl=>match us,hl with| [_,_,_],_=>rfl) (by decide)
 have hmem:=aa8 hl
 simp only[bm8,List.mem_cons,Prod.mk.injEq,List.not_mem_nil,or_false]at hmem
 rcases hmem with⟨rfl,rfl⟩
 ·exact h31
theorem c2Q (pw:P=aa0.P∧w=aa0.w)(ht: ∀t∈trs,aa4 K C t)(G:Glb K mg C glo exs)(h16:FnG P w K mg base C 38 "check_plan" aa5)(h11:FnG P w K mg base C 38 "is_int" ah8){f:Addr}{fd:FuncData}(F:FunD K "rule_pair" "rule_pair" (defArgs (top 232)) (defBody (top 232)) (defScope (top 232)) [] [] f fd)(hm:mg "rule_pair"=some (.ref f)):FnG P w K mg base C 39 "rule_pair" aD0:=by
 refine step (fns:=bm9) (Φ:=a4q) (N:=bc2) (ps:=b3o) pw ht G (fun x g hl=> ?_) F cU2 cU4 hm (FunD.bindsN F fun _ _ _ _ _ _ us hl=>match us,hl with| [_,_],_=>rfl) (by decide)
 have hmem:=aa8 hl
 simp only[bm9,List.mem_cons,Prod.mk.injEq,List.not_mem_nil,or_false]at hmem
 rcases hmem with⟨rfl,rfl⟩|⟨rfl,rfl⟩
 ·exact h16
 ·exact h11
theorem c2S (pw:P=aa0.P∧w=aa0.w)(ht: ∀t∈trs,aa4 K C t)(G:Glb K mg C glo exs)(h16:FnG P w K mg base C 39 "check_plan" aa5){f:Addr}{fd:FuncData}(F:FunD K "is_order_free" "is_order_free" (defArgs (top 226)) (defBody (top 226)) (defScope (top 226)) [] [] f fd)(hm:mg "is_order_free"=some (.ref f)):FnG P w K mg base C 40 "is_order_free" af4:=by
 refine step (fns:=bn0) (Φ:=aI0) (N:=aj6) (ps:=au2) pw ht G (fun x g hl=> ?_) F cU7 cU9 hm (FunD.bindsN F fun _ _ _ _ _ _ us hl=>match us,hl with| [_],_=>rfl) (by decide)
 have hmem:=aa8 hl
 simp only[bn0,List.mem_cons,Prod.mk.injEq,List.not_mem_nil,or_false]at hmem
 rcases hmem with⟨rfl,rfl⟩
 ·exact h16
theorem c2T (pw:P=aa0.P∧w=aa0.w)(ht: ∀t∈trs,aa4 K C t)(G:Glb K mg C glo exs)(h16:FnG P w K mg base C 40 "check_plan" aa5){f:Addr}{fd:FuncData}(F:FunD K "lost_match" "lost_match" (defArgs (top 174)) (defBody (top 174)) (defScope (top 174)) [] [] f fd)(hm:mg "lost_match"=some (.ref f)):FnG P w K mg base C 41 "lost_match" af4:=by
 refine step (fns:=bn1) (Φ:=aI0) (N:=aj6) (ps:=au2) pw ht G (fun x g hl=> ?_) F cV0 cV1 hm (FunD.bindsN F fun _ _ _ _ _ _ us hl=>match us,hl with| [_],_=>rfl) (by decide)
 have hmem:=aa8 hl
 simp only[bn1,List.mem_cons,Prod.mk.injEq,List.not_mem_nil,or_false]at hmem
 rcases hmem with⟨rfl,rfl⟩
 ·exact h16
theorem c2V (pw:P=aa0.P∧w=aa0.w)(ht: ∀t∈trs,aa4 K C t)(G:Glb K mg C glo exs)(h16:FnG P w K mg base C 41 "check_plan" aa5){f:Addr}{fd:FuncData}(F:FunD K "lost_word" "lost_word" (defArgs (top 180)) (defBody (top 180)) (defScope (top 180)) [] [] f fd)(hm:mg "lost_word"=some (.ref f)):FnG P w K mg base C 42 "lost_word" aD1:=by
 refine step (fns:=bn2) (Φ:=a4u) (N:=aN5) (ps:=a4s) pw ht G (fun x g hl=> ?_) F cV3 cV4 hm (FunD.bindsN F fun _ _ _ _ _ _ us hl=>match us,hl with| [_],_=>rfl) (by decide)
 have hmem:=aa8 hl
 simp only[bn2,List.mem_cons,Prod.mk.injEq,List.not_mem_nil,or_false]at hmem
 rcases hmem with⟨rfl,rfl⟩
 ·exact h16
theorem c2W (pw:P=aa0.P∧w=aa0.w)(ht: ∀t∈trs,aa4 K C t)(G:Glb K mg C glo exs)(h16:FnG P w K mg base C 42 "check_plan" aa5){f:Addr}{fd:FuncData}(F:FunD K "breaking_book" "breaking_book" (defArgs (top 185)) (defBody (top 185)) (defScope (top 185)) [] [] f fd)(hm:mg "breaking_book"=some (.ref f)):FnG P w K mg base C 43 "breaking_book" aD1:=by
 refine step (fns:=bn3) (Φ:=a4u) (N:=aN5) (ps:=a4s) pw ht G (fun x g hl=> ?_) F cV5 cV7 hm (FunD.bindsN F fun _ _ _ _ _ _ us hl=>match us,hl with| [_],_=>rfl) (by decide)
 have hmem:=aa8 hl
 simp only[bn3,List.mem_cons,Prod.mk.injEq,List.not_mem_nil,or_false]at hmem
 rcases hmem with⟨rfl,rfl⟩
 ·exact h16
theorem c23 (pw:P=aa0.P∧w=aa0.w)(ht: ∀t∈trs,aa4 K C t)(G:Glb K mg C glo exs)(h16:FnG P w K mg base C 43 "check_plan" aa5)(h20:FnG P w K mg base C 43 "has_key" aq2){f:Addr}{fd:FuncData}(F:FunD K "is_key" "is_key" (defArgs (top 97)) (defBody (top 97)) (defScope (top 97)) [] [] f fd)(hm:mg "is_key"=some (.ref f)):FnG P w K mg base C 44 "is_key" aZ2:=by
 refine step (fns:=bn4) (Φ:=a4b) (N:=a9S) (ps:=b2F) pw ht G (fun x g hl=> ?_) F cV8 cV9 hm (FunD.bindsN F fun _ _ _ _ _ _ us hl=>match us,hl with| [_,_],_=>rfl) (by decide)
 have hmem:=aa8 hl
 simp only[bn4,List.mem_cons,Prod.mk.injEq,List.not_mem_nil,or_false]at hmem
 rcases hmem with⟨rfl,rfl⟩|⟨rfl,rfl⟩
 ·exact h16
 ·exact h20
theorem c24 (pw:P=aa0.P∧w=aa0.w)(ht: ∀t∈trs,aa4 K C t)(G:Glb K mg C glo exs)(h16:FnG P w K mg base C 44 "check_plan" aa5)(h21:FnG P w K mg base C 44 "have_keys" aC3){f:Addr}{fd:FuncData}(F:FunD K "are_keys" "are_keys" (defArgs (top 99)) (defBody (top 99)) (defScope (top 99)) [] [] f fd)(hm:mg "are_keys"=some (.ref f)):FnG P w K mg base C 45 "are_keys" aZ1:=by
 refine step (fns:=bn6) (Φ:=a3U) (N:=a9R) (ps:=b2x) pw ht G (fun x g hl=> ?_) F cW0 cW1 hm (FunD.bindsN F fun _ _ _ _ _ _ us hl=>match us,hl with| [_,_],_=>rfl) (by decide)
 have hmem:=aa8 hl
 simp only[bn6,List.mem_cons,Prod.mk.injEq,List.not_mem_nil,or_false]at hmem
 rcases hmem with⟨rfl,rfl⟩|⟨rfl,rfl⟩
 ·exact h16
 ·exact h21
theorem c25 (pw:P=aa0.P∧w=aa0.w)(ht: ∀t∈trs,aa4 K C t)(G:Glb K mg C glo exs)(h16:FnG P w K mg base C 45 "check_plan" aa5)(h22:FnG P w K mg base C 45 "check_keys" af6){f:Addr}{fd:FuncData}(F:FunD K "missed_pair" "missed_pair" (defArgs (top 193)) (defBody (top 193)) (defScope (top 193)) [] [] f fd)(hm:mg "missed_pair"=some (.ref f)):FnG P w K mg base C 46 "missed_pair" an4:=by
 refine step (fns:=bn7) (Φ:=a0n) (N:=aN7) (ps:=a4y) pw ht G (fun x g hl=> ?_) F cW3 cW6 hm (FunD.bindsN F fun _ _ _ _ _ _ us hl=>match us,hl with| [_,_],_=>rfl) (by decide)
 have hmem:=aa8 hl
 simp only[bn7,List.mem_cons,Prod.mk.injEq,List.not_mem_nil,or_false]at hmem
 rcases hmem with⟨rfl,rfl⟩|⟨rfl,rfl⟩
 ·exact h16
 ·exact h22
theorem c27 (pw:P=aa0.P∧w=aa0.w)(ht: ∀t∈trs,aa4 K C t)(G:Glb K mg C glo exs){f:Addr}{fd:FuncData}(F:FunD K "check_text" "check_text" (defArgs (top 123)) (defBody (top 123)) (defScope (top 123)) [] [] f fd)(hm:mg "check_text"=some (.ref f)):FnG P w K mg base C 47 "check_text" aq5:=by
 refine step (fns:=b5e) (Φ:=b3v) (N:=bc5) (ps:=b3s) pw ht G (fun x g hl=> ?_) F cW8 cW9 hm (FunD.bindsN F fun _ _ _ _ _ _ us hl=>match us,hl with| [_],_=>rfl) (by decide)
 cases hl
theorem c3a (pw:P=aa0.P∧w=aa0.w)(ht: ∀t∈trs,aa4 K C t)(G:Glb K mg C glo exs)(h16:FnG P w K mg base C 47 "check_plan" aa5)(h44:FnG P w K mg base C 47 "check_text" aq5){f:Addr}{fd:FuncData}(F:FunD K "parse_entry" "parse_entry" (defArgs (top 126)) (defBody (top 126)) (defScope (top 126)) [] [] f fd)(hm:mg "parse_entry"=some (.ref f)):FnG P w K mg base C 48 "parse_entry" aD3:=by
 refine step (fns:=bo1) (Φ:=a4A) (N:=bc6) (ps:=b3x) pw ht G (fun x g hl=> ?_) F cX2 cX3 hm (FunD.bindsN F fun _ _ _ _ _ _ us hl=>match us,hl with| [_,_],_=>rfl) (by decide)
 have hmem:=aa8 hl
 simp only[bo1,List.mem_cons,Prod.mk.injEq,List.not_mem_nil,or_false]at hmem
 rcases hmem with⟨rfl,rfl⟩|⟨rfl,rfl⟩
 ·exact h16
 ·exact h44
theorem c3c (pw:P=aa0.P∧w=aa0.w)(ht: ∀t∈trs,aa4 K C t)(G:Glb K mg C glo exs)(h28:FnG P w K mg base C 48 "has_book" aB4){f:Addr}{fd:FuncData}(F:FunD K "check_book" "check_book" (defArgs (top 60)) (defBody (top 60)) (defScope (top 60)) [] [] f fd)(hm:mg "check_book"=some (.ref f)):FnG P w K mg base C 49 "check_book" at9:=by
 refine step (fns:=bo4) (Φ:=a9p) (N:=a9o) (ps:=b1Q) pw ht G (fun x g hl=> ?_) F cX5 cX9 hm (FunD.bindsN F fun _ _ _ _ _ _ us hl=>match us,hl with| [_,_],_=>rfl) (by decide)
 have hmem:=aa8 hl
 simp only[bo4,List.mem_cons,Prod.mk.injEq,List.not_mem_nil,or_false]at hmem
 rcases hmem with⟨rfl,rfl⟩
 ·exact h28
theorem c3e (pw:P=aa0.P∧w=aa0.w)(ht: ∀t∈trs,aa4 K C t)(G:Glb K mg C glo exs)(h16:FnG P w K mg base C 49 "check_plan" aa5)(h46:FnG P w K mg base C 49 "check_book" at9){f:Addr}{fd:FuncData}(F:FunD K "format_book" "format_book" (defArgs (top 133)) (defBody (top 133)) (defScope (top 133)) [] [] f fd)(hm:mg "format_book"=some (.ref f)):FnG P w K mg base C 50 "format_book" aj5:=by
 refine step (fns:=bo5) (Φ:=aO2) (N:=ax6) (ps:=aO1) pw ht G (fun x g hl=> ?_) F cY0 cY1 hm (FunD.bindsN F fun _ _ _ _ _ _ us hl=>match us,hl with| [_,_],_=>rfl) (by decide)
 have hmem:=aa8 hl
 simp only[bo5,List.mem_cons,Prod.mk.injEq,List.not_mem_nil,or_false]at hmem
 rcases hmem with⟨rfl,rfl⟩|⟨rfl,rfl⟩
 ·exact h16
 ·exact h46
theorem c3f (pw:P=aa0.P∧w=aa0.w)(ht: ∀t∈trs,aa4 K C t)(G:Glb K mg C glo exs)(h16:FnG P w K mg base C 50 "check_plan" aa5)(h44:FnG P w K mg base C 50 "check_text" aq5){f:Addr}{fd:FuncData}(F:FunD K "parse_keys" "parse_keys" (defArgs (top 136)) (defBody (top 136)) (defScope (top 136)) [] [] f fd)(hm:mg "parse_keys"=some (.ref f)):FnG P w K mg base C 51 "parse_keys" a0p:=by
 refine step (fns:=bo6) (Φ:=a4C) (N:=bd2) (ps:=b3B) pw ht G (fun x g hl=> ?_) F cY2 cY3 hm (FunD.bindsN F fun _ _ _ _ _ _ us hl=>match us,hl with| [_,_],_=>rfl) (by decide)
 have hmem:=aa8 hl
 simp only[bo6,List.mem_cons,Prod.mk.injEq,List.not_mem_nil,or_false]at hmem
 rcases hmem with⟨rfl,rfl⟩|⟨rfl,rfl⟩
 ·exact h16
 ·exact h44
theorem c3h (pw:P=aa0.P∧w=aa0.w)(ht: ∀t∈trs,aa4 K C t)(G:Glb K mg C glo exs)(h16:FnG P w K mg base C 51 "check_plan" aa5){f:Addr}{fd:FuncData}(F:FunD K "needless_rules" "needless_rules" (defArgs (top 233)) (defBody (top 233)) (defScope (top 233)) [] [] f fd)(hm:mg "needless_rules"=some (.ref f)):FnG P w K mg base C 52 "needless_rules" a0s:=by
 refine step (fns:=bo7) (Φ:=bd6) (N:=bd5) (ps:=b3K) pw ht G (fun x g hl=> ?_) F cY4 cY5 hm (FunD.bindsN F fun _ _ _ _ _ _ us hl=>match us,hl with| [_],_=>rfl) (by decide)
 have hmem:=aa8 hl
 simp only[bo7,List.mem_cons,Prod.mk.injEq,List.not_mem_nil,or_false]at hmem
 rcases hmem with⟨rfl,rfl⟩
 ·exact h16
theorem c3k (pw:P=aa0.P∧w=aa0.w)(ht: ∀t∈trs,aa4 K C t)(G:Glb K mg C glo exs)(h16:FnG P w K mg base C 52 "check_plan" aa5){f:Addr}{fd:FuncData}(F:FunD K "needless_bars" "needless_bars" (defArgs (top 235)) (defBody (top 235)) (defScope (top 235)) [] [] f fd)(hm:mg "needless_bars"=some (.ref f)):FnG P w K mg base C 53 "needless_bars" af4:=by
 refine step (fns:=bo9) (Φ:=aI0) (N:=aj6) (ps:=au2) pw ht G (fun x g hl=> ?_) F cY6 cY7 hm (FunD.bindsN F fun _ _ _ _ _ _ us hl=>match us,hl with| [_],_=>rfl) (by decide)
 have hmem:=aa8 hl
 simp only[bo9,List.mem_cons,Prod.mk.injEq,List.not_mem_nil,or_false]at hmem
 rcases hmem with⟨rfl,rfl⟩
 ·exact h16
theorem c3l (pw:P=aa0.P∧w=aa0.w)(ht: ∀t∈trs,aa4 K C t)(G:Glb K mg C glo exs)(h16:FnG P w K mg base C 53 "check_plan" aa5){f:Addr}{fd:FuncData}(F:FunD K "added_match" "added_match" (defArgs (top 176)) (defBody (top 176)) (defScope (top 176)) [] [] f fd)(hm:mg "added_match"=some (.ref f)):FnG P w K mg base C 54 "added_match" af4:=by
 refine step (fns:=bp0) (Φ:=aI0) (N:=aj6) (ps:=au2) pw ht G (fun x g hl=> ?_) F cY8 cY9 hm (FunD.bindsN F fun _ _ _ _ _ _ us hl=>match us,hl with| [_],_=>rfl) (by decide)
 have hmem:=aa8 hl
 simp only[bp0,List.mem_cons,Prod.mk.injEq,List.not_mem_nil,or_false]at hmem
 rcases hmem with⟨rfl,rfl⟩
 ·exact h16
theorem c3m (pw:P=aa0.P∧w=aa0.w)(ht: ∀t∈trs,aa4 K C t)(G:Glb K mg C glo exs)(h38:FnG P w K mg base C 54 "lost_match" af4){f:Addr}{fd:FuncData}(F:FunD K "keeps_matches" "keeps_matches" (defArgs (top 175)) (defBody (top 175)) (defScope (top 175)) [] [] f fd)(hm:mg "keeps_matches"=some (.ref f)):FnG P w K mg base C 55 "keeps_matches" a0t:=by
 refine step (fns:=bp1) (Φ:=bd8) (N:=bd7) (ps:=b3M) pw ht G (fun x g hl=> ?_) F cZ0 cZ1 hm (FunD.bindsN F fun _ _ _ _ _ _ us hl=>match us,hl with| [_],_=>rfl) (by decide)
 have hmem:=aa8 hl
 simp only[bp1,List.mem_cons,Prod.mk.injEq,List.not_mem_nil,or_false]at hmem
 rcases hmem with⟨rfl,rfl⟩
 ·exact h38
theorem c3o (pw:P=aa0.P∧w=aa0.w)(ht: ∀t∈trs,aa4 K C t)(G:Glb K mg C glo exs)(h51:FnG P w K mg base C 55 "added_match" af4){f:Addr}{fd:FuncData}(F:FunD K "adds_matches" "adds_matches" (defArgs (top 177)) (defBody (top 177)) (defScope (top 177)) [] [] f fd)(hm:mg "adds_matches"=some (.ref f)):FnG P w K mg base C 56 "adds_matches" a0A:=by
 refine step (fns:=bp3) (Φ:=be2) (N:=be1) (ps:=b3R) pw ht G (fun x g hl=> ?_) F cZ3 cZ4 hm (FunD.bindsN F fun _ _ _ _ _ _ us hl=>match us,hl with| [_],_=>rfl) (by decide)
 have hmem:=aa8 hl
 simp only[bp3,List.mem_cons,Prod.mk.injEq,List.not_mem_nil,or_false]at hmem
 rcases hmem with⟨rfl,rfl⟩
 ·exact h51
theorem c3q (pw:P=aa0.P∧w=aa0.w)(ht: ∀t∈trs,aa4 K C t)(G:Glb K mg C glo exs)(h52:FnG P w K mg base C 56 "keeps_matches" a0t)(h53:FnG P w K mg base C 56 "adds_matches" a0A){f:Addr}{fd:FuncData}(F:FunD K "goes_by_groups" "goes_by_groups" (defArgs (top 184)) (defBody (top 184)) (defScope (top 184)) [] [] f fd)(hm:mg "goes_by_groups"=some (.ref f)):FnG P w K mg base C 57 "goes_by_groups" a0B:=by
 refine step (fns:=bp4) (Φ:=a4H) (N:=be4) (ps:=b3U) pw ht G (fun x g hl=> ?_) F cZ5 cZ6 hm (FunD.bindsN F fun _ _ _ _ _ _ us hl=>match us,hl with| [_],_=>rfl) (by decide)
 have hmem:=aa8 hl
 simp only[bp4,List.mem_cons,Prod.mk.injEq,List.not_mem_nil,or_false]at hmem
 rcases hmem with⟨rfl,rfl⟩|⟨rfl,rfl⟩
 ·exact h52
 ·exact h53
theorem c3r (pw:P=aa0.P∧w=aa0.w)(ht: ∀t∈trs,aa4 K C t)(G:Glb K mg C glo exs)(h16:FnG P w K mg base C 57 "check_plan" aa5){f:Addr}{fd:FuncData}(F:FunD K "format_plan" "format_plan" (defArgs (top 130)) (defBody (top 130)) (defScope (top 130)) [] [] f fd)(hm:mg "format_plan"=some (.ref f)):FnG P w K mg base C 58 "format_plan" af4:=by
 refine step (fns:=bq0) (Φ:=aI0) (N:=aj6) (ps:=au2) pw ht G (fun x g hl=> ?_) F cZ7 cZ8 hm (FunD.bindsN F fun _ _ _ _ _ _ us hl=>match us,hl with| [_],_=>rfl) (by decide)
 have hmem:=aa8 hl
 simp only[bq0,List.mem_cons,Prod.mk.injEq,List.not_mem_nil,or_false]at hmem
 rcases hmem with⟨rfl,rfl⟩
 ·exact h16
theorem c3t (pw:P=aa0.P∧w=aa0.w)(G:Glb K mg C glo exs)(h27:FnG P w K mg base C 58 "is_entry" a0l)(h29:FnG P w K mg base C 58 "is_book" a0c)(h34:FnG P w K mg base C 58 "rules_between" aY5)(h35:FnG P w K mg base C 58 "joined" a0m)(h36:FnG P w K mg base C 58 "rule_pair" aD0)(h37:FnG P w K mg base C 58 "is_order_free" af4)(h38:FnG P w K mg base C 58 "lost_match" af4)(h39:FnG P w K mg base C 58 "lost_word" aD1)(h40:FnG P w K mg base C 58 "breaking_book" aD1)(h41:FnG P w K mg base C 58 "is_key" aZ2)(h42:FnG P w K mg base C 58 "are_keys" aZ1)(h43:FnG P w K mg base C 58 "missed_pair" an4)(h45:FnG P w K mg base C 58 "parse_entry" aD3)(h47:FnG P w K mg base C 58 "format_book" aj5)(h48:FnG P w K mg base C 58 "parse_keys" a0p)(h49:FnG P w K mg base C 58 "needless_rules" a0s)(h50:FnG P w K mg base C 58 "needless_bars" af4)(h51:FnG P w K mg base C 58 "added_match" af4)(h54:FnG P w K mg base C 58 "goes_by_groups" a0B)(h55:FnG P w K mg base C 58 "format_plan" af4){f:Addr}{fd:FuncData}(F:FunD K "_law_second" "_law_second" (defArgs (top 242)) (defBody (top 242)) (defScope (top 242)) [] [] f fd)(hm:mg "_law_second"=some (.ref f))(hT:aM3 base mg "_law_second" fd)(AA: ∀X:Cx,X.K=K→X.mg=mg→at8 X C "_law_all" (nmE au1)):FnG P w K mg base C 61 "_law_second" a4J:=by
 refine a3v (lv:=58) (fns:=aP8) (Φ:=ai3) (N:=aO4) (ps:=b3W) (bs:=be5) pw G (fun x g hl=> ?_) F cZ9 c0a c0b c0c c0d hT AA hm (FunD.bindsN F fun _ _ _ _ _ _ us hl=>match us,hl with| [_,_,_,_,_,_],_=>rfl) (by decide)
 ·have hmem:=aa8 hl
  simp only[aP8,List.mem_cons,Prod.mk.injEq,List.not_mem_nil,or_false]at hmem
  rcases hmem with⟨rfl,rfl⟩|⟨rfl,rfl⟩|⟨rfl,rfl⟩|⟨rfl,rfl⟩|⟨rfl,rfl⟩|⟨rfl,rfl⟩|⟨rfl,rfl⟩|⟨rfl,rfl⟩|⟨rfl,rfl⟩|⟨rfl,rfl⟩|⟨rfl,rfl⟩|⟨rfl,rfl⟩|⟨rfl,rfl⟩|⟨rfl,rfl⟩|⟨rfl,rfl⟩|⟨rfl,rfl⟩|⟨rfl,rfl⟩|⟨rfl,rfl⟩|⟨rfl,rfl⟩|⟨rfl,rfl⟩
  ·exact h27
  ·exact h29
  ·exact h34
  ·exact h35
  ·exact h36
  ·exact h37
  ·exact h38
  ·exact h39
  ·exact h40
  ·exact h41
  ·exact h42
  ·exact h43
  ·exact h45
  ·exact h47
  ·exact h48
  ·exact h49
  ·exact h50
  ·exact h51
  ·exact h54
  ·exact h55
theorem c3u (pw:P=aa0.P∧w=aa0.w)(ht: ∀t∈trs,aa4 K C t)(G:Glb K mg C glo exs)(h16:FnG P w K mg base C 61 "check_plan" aa5)(h30:FnG P w K mg base C 61 "check_entry" af8){f:Addr}{fd:FuncData}(F:FunD K "count_words" "count_words" (defArgs (top 63)) (defBody (top 63)) (defScope (top 63)) [] [] f fd)(hm:mg "count_words"=some (.ref f)):FnG P w K mg base C 62 "count_words" a0D:=by
 refine step (fns:=bq1) (Φ:=a4M) (N:=be7) (ps:=b3Z) pw ht G (fun x g hl=> ?_) F c0e c0h hm (FunD.bindsN F fun _ _ _ _ _ _ us hl=>match us,hl with| [_,_],_=>rfl) (by decide)
 have hmem:=aa8 hl
 simp only[bq1,List.mem_cons,Prod.mk.injEq,List.not_mem_nil,or_false]at hmem
 rcases hmem with⟨rfl,rfl⟩|⟨rfl,rfl⟩
 ·exact h16
 ·exact h30
theorem c3v (pw:P=aa0.P∧w=aa0.w)(ht: ∀t∈trs,aa4 K C t)(G:Glb K mg C glo exs)(h32:FnG P w K mg base C 62 "has_test" aB7){f:Addr}{fd:FuncData}(F:FunD K "find_bars" "find_bars" (defArgs (top 72)) (defBody (top 72)) (defScope (top 72)) [] [] f fd)(hm:mg "find_bars"=some (.ref f)):FnG P w K mg base C 63 "find_bars" aB9:=by
 refine step (fns:=bq2) (Φ:=a9B) (N:=a9x) (ps:=b11) pw ht G (fun x g hl=> ?_) F c0j c0k hm (FunD.bindsN F fun _ _ _ _ _ _ us hl=>match us,hl with| [_,_,_],_=>rfl) (by decide)
 have hmem:=aa8 hl
 simp only[bq2,List.mem_cons,Prod.mk.injEq,List.not_mem_nil,or_false]at hmem
 rcases hmem with⟨rfl,rfl⟩
 ·exact h32
theorem c3w (pw:P=aa0.P∧w=aa0.w)(ht: ∀t∈trs,aa4 K C t)(G:Glb K mg C glo exs)(h33:FnG P w K mg base C 63 "find_rules" aB8)(h58:FnG P w K mg base C 63 "find_bars" aB9){f:Addr}{fd:FuncData}(F:FunD K "find_match" "find_match" (defArgs (top 73)) (defBody (top 73)) (defScope (top 73)) [] [] f fd)(hm:mg "find_match"=some (.ref f)):FnG P w K mg base C 64 "find_match" aC0:=by
 refine step (fns:=bq6) (Φ:=a3F) (N:=a9C) (ps:=b15) pw ht G (fun x g hl=> ?_) F c0l c0m hm (FunD.bindsN F fun _ _ _ _ _ _ us hl=>match us,hl with| [_,_,_],_=>rfl) (by decide)
 have hmem:=aa8 hl
 simp only[bq6,List.mem_cons,Prod.mk.injEq,List.not_mem_nil,or_false]at hmem
 rcases hmem with⟨rfl,rfl⟩|⟨rfl,rfl⟩
 ·exact h33
 ·exact h58
theorem fn60 (pw:P=aa0.P∧w=aa0.w)(ht: ∀t∈trs,aa4 K C t)(G:Glb K mg C glo exs)(h31:FnG P w K mg base C 64 "check_two" ai2)(h59:FnG P w K mg base C 64 "find_match" aC0){f:Addr}{fd:FuncData}(F:FunD K "do_match" "do_match" (defArgs (top 77)) (defBody (top 77)) (defScope (top 77)) [] [] f fd)(hm:mg "do_match"=some (.ref f)):FnG P w K mg base C 65 "do_match" aY7:=by
 refine step (fns:=bq7) (Φ:=a3R) (N:=a9L) (ps:=b2m) pw ht G (fun x g hl=> ?_) F c0o c0p hm (FunD.bindsN F fun _ _ _ _ _ _ us hl=>match us,hl with| [_,_,_],_=>rfl) (by decide)
 have hmem:=aa8 hl
 simp only[bq7,List.mem_cons,Prod.mk.injEq,List.not_mem_nil,or_false]at hmem
 rcases hmem with⟨rfl,rfl⟩|⟨rfl,rfl⟩
 ·exact h31
 ·exact h59
theorem c3x (pw:P=aa0.P∧w=aa0.w)(ht: ∀t∈trs,aa4 K C t)(G:Glb K mg C glo exs)(h59:FnG P w K mg base C 65 "find_match" aC0){f:Addr}{fd:FuncData}(F:FunD K "check_match" "check_match" (defArgs (top 83)) (defBody (top 83)) (defScope (top 83)) [] [] f fd)(hm:mg "check_match"=some (.ref f)):FnG P w K mg base C 66 "check_match" aq4:=by
 refine step (fns:=bq9) (Φ:=a91) (N:=a90) (ps:=b2P) pw ht G (fun x g hl=> ?_) F c0r c0s hm (FunD.bindsN F fun _ _ _ _ _ _ us hl=>match us,hl with| [_,_,_],_=>rfl) (by decide)
 have hmem:=aa8 hl
 simp only[bq9,List.mem_cons,Prod.mk.injEq,List.not_mem_nil,or_false]at hmem
 rcases hmem with⟨rfl,rfl⟩
 ·exact h59
theorem c3y (pw:P=aa0.P∧w=aa0.w)(ht: ∀t∈trs,aa4 K C t)(G:Glb K mg C glo exs)(h31:FnG P w K mg base C 66 "check_two" ai2)(h61:FnG P w K mg base C 66 "check_match" aq4){f:Addr}{fd:FuncData}(F:FunD K "merged" "merged" (defArgs (top 84)) (defBody (top 84)) (defScope (top 84)) [] [] f fd)(hm:mg "merged"=some (.ref f)):FnG P w K mg base C 67 "merged" a0F:=by
 refine step (fns:=br0) (Φ:=a4N) (N:=be8) (ps:=b32) pw ht G (fun x g hl=> ?_) F c0u c0w hm (FunD.bindsN F fun _ _ _ _ _ _ us hl=>match us,hl with| [_,_,_],_=>rfl) (by decide)
 have hmem:=aa8 hl
 simp only[br0,List.mem_cons,Prod.mk.injEq,List.not_mem_nil,or_false]at hmem
 rcases hmem with⟨rfl,rfl⟩|⟨rfl,rfl⟩
 ·exact h31
 ·exact h61
theorem c3z (pw:P=aa0.P∧w=aa0.w)(ht: ∀t∈trs,aa4 K C t)(G:Glb K mg C glo exs)(h16:FnG P w K mg base C 67 "check_plan" aa5)(h61:FnG P w K mg base C 67 "check_match" aq4)(h30:FnG P w K mg base C 67 "check_entry" af8){f:Addr}{fd:FuncData}(F:FunD K "two_ways" "two_ways" (defArgs (top 90)) (defBody (top 90)) (defScope (top 90)) [] [] f fd)(hm:mg "two_ways"=some (.ref f)):FnG P w K mg base C 68 "two_ways" a0K:=by
 refine step (fns:=br2) (Φ:=a0I) (N:=bf0) (ps:=b34) pw ht G (fun x g hl=> ?_) F c0y c0A hm (FunD.bindsN F fun _ _ _ _ _ _ us hl=>match us,hl with| [_,_,_,_],_=>rfl) (by decide)
 have hmem:=aa8 hl
 simp only[br2,List.mem_cons,Prod.mk.injEq,List.not_mem_nil,or_false]at hmem
 rcases hmem with⟨rfl,rfl⟩|⟨rfl,rfl⟩|⟨rfl,rfl⟩
 ·exact h16
 ·exact h61
 ·exact h30
theorem c3B (pw:P=aa0.P∧w=aa0.w)(ht: ∀t∈trs,aa4 K C t)(G:Glb K mg C glo exs)(h20:FnG P w K mg base C 68 "has_key" aq2){f:Addr}{fd:FuncData}(F:FunD K "check_key" "check_key" (defArgs (top 100)) (defBody (top 100)) (defScope (top 100)) [] [] f fd)(hm:mg "check_key"=some (.ref f)):FnG P w K mg base C 69 "check_key" aZ5:=by
 refine step (fns:=br3) (Φ:=a9U) (N:=a9T) (ps:=b2K) pw ht G (fun x g hl=> ?_) F c0B c0D hm (FunD.bindsN F fun _ _ _ _ _ _ us hl=>match us,hl with| [_,_],_=>rfl) (by decide)
 have hmem:=aa8 hl
 simp only[br3,List.mem_cons,Prod.mk.injEq,List.not_mem_nil,or_false]at hmem
 rcases hmem with⟨rfl,rfl⟩
 ·exact h20
theorem c3C (pw:P=aa0.P∧w=aa0.w)(ht: ∀t∈trs,aa4 K C t)(G:Glb K mg C glo exs)(h16:FnG P w K mg base C 69 "check_plan" aa5)(h64:FnG P w K mg base C 69 "check_key" aZ5)(h30:FnG P w K mg base C 69 "check_entry" af8){f:Addr}{fd:FuncData}(F:FunD K "labels" "labels" (defArgs (top 104)) (defBody (top 104)) (defScope (top 104)) [] [] f fd)(hm:mg "labels"=some (.ref f)):FnG P w K mg base C 70 "labels" aD5:=by
 refine step (fns:=br4) (Φ:=a0L) (N:=bf1) (ps:=b36) pw ht G (fun x g hl=> ?_) F c0F c0I hm (FunD.bindsN F fun _ _ _ _ _ _ us hl=>match us,hl with| [_,_,_],_=>rfl) (by decide)
 have hmem:=aa8 hl
 simp only[br4,List.mem_cons,Prod.mk.injEq,List.not_mem_nil,or_false]at hmem
 rcases hmem with⟨rfl,rfl⟩|⟨rfl,rfl⟩|⟨rfl,rfl⟩
 ·exact h16
 ·exact h64
 ·exact h30
theorem c3D (pw:P=aa0.P∧w=aa0.w)(ht: ∀t∈trs,aa4 K C t)(G:Glb K mg C glo exs)(h16:FnG P w K mg base C 70 "check_plan" aa5)(h22:FnG P w K mg base C 70 "check_keys" af6)(h30:FnG P w K mg base C 70 "check_entry" af8){f:Addr}{fd:FuncData}(F:FunD K "common_labels" "common_labels" (defArgs (top 107)) (defBody (top 107)) (defScope (top 107)) [] [] f fd)(hm:mg "common_labels"=some (.ref f)):FnG P w K mg base C 71 "common_labels" aD6:=by
 refine step (fns:=br6) (Φ:=a0M) (N:=bf2) (ps:=b38) pw ht G (fun x g hl=> ?_) F c0J c0K hm (FunD.bindsN F fun _ _ _ _ _ _ us hl=>match us,hl with| [_,_,_,_],_=>rfl) (by decide)
 have hmem:=aa8 hl
 simp only[br6,List.mem_cons,Prod.mk.injEq,List.not_mem_nil,or_false]at hmem
 rcases hmem with⟨rfl,rfl⟩|⟨rfl,rfl⟩|⟨rfl,rfl⟩
 ·exact h16
 ·exact h22
 ·exact h30
theorem c3E (pw:P=aa0.P∧w=aa0.w)(ht: ∀t∈trs,aa4 K C t)(G:Glb K mg C glo exs)(h66:FnG P w K mg base C 71 "common_labels" aD6){f:Addr}{fd:FuncData}(F:FunD K "share_label" "share_label" (defArgs (top 108)) (defBody (top 108)) (defScope (top 108)) [] [] f fd)(hm:mg "share_label"=some (.ref f)):FnG P w K mg base C 72 "share_label" a0N:=by
 refine step (fns:=br7) (Φ:=bf6) (N:=bf4) (ps:=b4d) pw ht G (fun x g hl=> ?_) F c0M c0N hm (FunD.bindsN F fun _ _ _ _ _ _ us hl=>match us,hl with| [_,_,_,_],_=>rfl) (by decide)
 have hmem:=aa8 hl
 simp only[br7,List.mem_cons,Prod.mk.injEq,List.not_mem_nil,or_false]at hmem
 rcases hmem with⟨rfl,rfl⟩
 ·exact h66
theorem c3K (pw:P=aa0.P∧w=aa0.w)(ht: ∀t∈trs,aa4 K C t)(G:Glb K mg C glo exs)(h16:FnG P w K mg base C 72 "check_plan" aa5)(h30:FnG P w K mg base C 72 "check_entry" af8){f:Addr}{fd:FuncData}(F:FunD K "format_entry" "format_entry" (defArgs (top 122)) (defBody (top 122)) (defScope (top 122)) [] [] f fd)(hm:mg "format_entry"=some (.ref f)):FnG P w K mg base C 73 "format_entry" a0Q:=by
 refine step (fns:=br8) (Φ:=a4Q) (N:=bf7) (ps:=b4f) pw ht G (fun x g hl=> ?_) F c0O c0Q hm (FunD.bindsN F fun _ _ _ _ _ _ us hl=>match us,hl with| [_,_],_=>rfl) (by decide)
 have hmem:=aa8 hl
 simp only[br8,List.mem_cons,Prod.mk.injEq,List.not_mem_nil,or_false]at hmem
 rcases hmem with⟨rfl,rfl⟩|⟨rfl,rfl⟩
 ·exact h16
 ·exact h30
theorem c3L (pw:P=aa0.P∧w=aa0.w)(ht: ∀t∈trs,aa4 K C t)(G:Glb K mg C glo exs)(h31:FnG P w K mg base C 73 "check_two" ai2)(h58:FnG P w K mg base C 73 "find_bars" aB9){f:Addr}{fd:FuncData}(F:FunD K "bars_between" "bars_between" (defArgs (top 76)) (defBody (top 76)) (defScope (top 76)) [] [] f fd)(hm:mg "bars_between"=some (.ref f)):FnG P w K mg base C 74 "bars_between" aY4:=by
 refine step (fns:=br9) (Φ:=a3J) (N:=a9I) (ps:=b2d) pw ht G (fun x g hl=> ?_) F c0R c0S hm (FunD.bindsN F fun _ _ _ _ _ _ us hl=>match us,hl with| [_,_,_],_=>rfl) (by decide)
 have hmem:=aa8 hl
 simp only[br9,List.mem_cons,Prod.mk.injEq,List.not_mem_nil,or_false]at hmem
 rcases hmem with⟨rfl,rfl⟩|⟨rfl,rfl⟩
 ·exact h31
 ·exact h58
theorem c3M (pw:P=aa0.P∧w=aa0.w)(ht: ∀t∈trs,aa4 K C t)(G:Glb K mg C glo exs)(h16:FnG P w K mg base C 74 "check_plan" aa5)(h46:FnG P w K mg base C 74 "check_book" at9){f:Addr}{fd:FuncData}(F:FunD K "matches" "matches" (defArgs (top 79)) (defBody (top 79)) (defScope (top 79)) [] [] f fd)(hm:mg "matches"=some (.ref f)):FnG P w K mg base C 75 "matches" aj5:=by
 refine step (fns:=bs0) (Φ:=aO2) (N:=ax6) (ps:=aO1) pw ht G (fun x g hl=> ?_) F c0T c0U hm (FunD.bindsN F fun _ _ _ _ _ _ us hl=>match us,hl with| [_,_],_=>rfl) (by decide)
 have hmem:=aa8 hl
 simp only[bs0,List.mem_cons,Prod.mk.injEq,List.not_mem_nil,or_false]at hmem
 rcases hmem with⟨rfl,rfl⟩|⟨rfl,rfl⟩
 ·exact h16
 ·exact h46
theorem c3N (pw:P=aa0.P∧w=aa0.w)(ht: ∀t∈trs,aa4 K C t)(G:Glb K mg C glo exs)(h11:FnG P w K mg base C 75 "is_int" ah8){f:Addr}{fd:FuncData}(F:FunD K "check_place" "check_place" (defArgs (top 61)) (defBody (top 61)) (defScope (top 61)) [] [] f fd)(hm:mg "check_place"=some (.ref f)):FnG P w K mg base C 76 "check_place" aZ9:=by
 refine step (fns:=bs1) (Φ:=a94) (N:=a92) (ps:=b2S) pw ht G (fun x g hl=> ?_) F c0V c0W hm (FunD.bindsN F fun _ _ _ _ _ _ us hl=>match us,hl with| [_,_],_=>rfl) (by decide)
 have hmem:=aa8 hl
 simp only[bs1,List.mem_cons,Prod.mk.injEq,List.not_mem_nil,or_false]at hmem
 rcases hmem with⟨rfl,rfl⟩
 ·exact h11
theorem c3O (pw:P=aa0.P∧w=aa0.w)(ht: ∀t∈trs,aa4 K C t)(G:Glb K mg C glo exs)(h16:FnG P w K mg base C 76 "check_plan" aa5)(h46:FnG P w K mg base C 76 "check_book" at9)(h71:FnG P w K mg base C 76 "check_place" aZ9)(h61:FnG P w K mg base C 76 "check_match" aq4){f:Addr}{fd:FuncData}(F:FunD K "step" "step" (defArgs (top 87)) (defBody (top 87)) (defScope (top 87)) [] [] f fd)(hm:mg "step"=some (.ref f)):FnG P w K mg base C 77 "step" a0S:=by
 refine step (fns:=bs3) (Φ:=aO5) (N:=bg0) (ps:=b4j) pw ht G (fun x g hl=> ?_) F c0Y c0Z hm (FunD.bindsN F fun _ _ _ _ _ _ us hl=>match us,hl with| [_,_,_,_],_=>rfl) (by decide)
 have hmem:=aa8 hl
 simp only[bs3,List.mem_cons,Prod.mk.injEq,List.not_mem_nil,or_false]at hmem
 rcases hmem with⟨rfl,rfl⟩|⟨rfl,rfl⟩|⟨rfl,rfl⟩|⟨rfl,rfl⟩
 ·exact h16
 ·exact h46
 ·exact h71
 ·exact h61
theorem c3P (pw:P=aa0.P∧w=aa0.w)(ht: ∀t∈trs,aa4 K C t)(G:Glb K mg C glo exs)(h16:FnG P w K mg base C 77 "check_plan" aa5)(h46:FnG P w K mg base C 77 "check_book" at9){f:Addr}{fd:FuncData}(F:FunD K "groups" "groups" (defArgs (top 183)) (defBody (top 183)) (defScope (top 183)) [] [] f fd)(hm:mg "groups"=some (.ref f)):FnG P w K mg base C 78 "groups" aj5:=by
 refine step (fns:=bs4) (Φ:=aO2) (N:=ax6) (ps:=aO1) pw ht G (fun x g hl=> ?_) F c01 c02 hm (FunD.bindsN F fun _ _ _ _ _ _ us hl=>match us,hl with| [_,_],_=>rfl) (by decide)
 have hmem:=aa8 hl
 simp only[bs4,List.mem_cons,Prod.mk.injEq,List.not_mem_nil,or_false]at hmem
 rcases hmem with⟨rfl,rfl⟩|⟨rfl,rfl⟩
 ·exact h16
 ·exact h46
theorem c3Q (pw:P=aa0.P∧w=aa0.w)(ht: ∀t∈trs,aa4 K C t)(G:Glb K mg C glo exs)(h70:FnG P w K mg base C 78 "matches" aj5){f:Addr}{fd:FuncData}(F:FunD K "is_done" "is_done" (defArgs (top 80)) (defBody (top 80)) (defScope (top 80)) [] [] f fd)(hm:mg "is_done"=some (.ref f)):FnG P w K mg base C 79 "is_done" a0T:=by
 refine step (fns:=bs5) (Φ:=bg4) (N:=bg2) (ps:=b4o) pw ht G (fun x g hl=> ?_) F c03 c04 hm (FunD.bindsN F fun _ _ _ _ _ _ us hl=>match us,hl with| [_,_],_=>rfl) (by decide)
 have hmem:=aa8 hl
 simp only[bs5,List.mem_cons,Prod.mk.injEq,List.not_mem_nil,or_false]at hmem
 rcases hmem with⟨rfl,rfl⟩
 ·exact h70
theorem c3S (pw:P=aa0.P∧w=aa0.w)(G:Glb K mg C glo exs)(h57:FnG P w K mg base C 79 "count_words" a0D)(h60:FnG P w K mg base C 79 "do_match" aY7)(h62:FnG P w K mg base C 79 "merged" a0F)(h63:FnG P w K mg base C 79 "two_ways" a0K)(h65:FnG P w K mg base C 79 "labels" aD5)(h67:FnG P w K mg base C 79 "share_label" a0N)(h68:FnG P w K mg base C 79 "format_entry" a0Q)(h69:FnG P w K mg base C 79 "bars_between" aY4)(h70:FnG P w K mg base C 79 "matches" aj5)(h72:FnG P w K mg base C 79 "step" a0S)(h73:FnG P w K mg base C 79 "groups" aj5)(h74:FnG P w K mg base C 79 "is_done" a0T){f:Addr}{fd:FuncData}(F:FunD K "_law_third" "_law_third" (defArgs (top 243)) (defBody (top 243)) (defScope (top 243)) [] [] f fd)(hm:mg "_law_third"=some (.ref f))(hT:aM3 base mg "_law_third" fd)(AA: ∀X:Cx,X.K=K→X.mg=mg→at8 X C "_law_all" (nmE au1)):FnG P w K mg base C 82 "_law_third" a4V:=by
 refine a3v (lv:=79) (fns:=aP9) (Φ:=an6) (N:=aO7) (ps:=b4t) (bs:=bg6) pw G (fun x g hl=> ?_) F c05 c07 c08 c1a c1b hT AA hm (FunD.bindsN F fun _ _ _ _ _ _ us hl=>match us,hl with| [_,_,_,_,_,_],_=>rfl) (by decide)
 ·have hmem:=aa8 hl
  simp only[aP9,List.mem_cons,Prod.mk.injEq,List.not_mem_nil,or_false]at hmem
  rcases hmem with⟨rfl,rfl⟩|⟨rfl,rfl⟩|⟨rfl,rfl⟩|⟨rfl,rfl⟩|⟨rfl,rfl⟩|⟨rfl,rfl⟩|⟨rfl,rfl⟩|⟨rfl,rfl⟩|⟨rfl,rfl⟩|⟨rfl,rfl⟩|⟨rfl,rfl⟩|⟨rfl,rfl⟩
  ·exact h57
  ·exact h60
  ·exact h62
  ·exact h63
  ·exact h65
  ·exact h67
  ·exact h68
  ·exact h69
  ·exact h70
  ·exact h72
  ·exact h73
  ·exact h74
theorem c3T (pw:P=aa0.P∧w=aa0.w)(ht: ∀t∈trs,aa4 K C t)(G:Glb K mg C glo exs)(h16:FnG P w K mg base C 82 "check_plan" aa5)(h11:FnG P w K mg base C 82 "is_int" ah8){f:Addr}{fd:FuncData}(F:FunD K "bar_pair" "bar_pair" (defArgs (top 236)) (defBody (top 236)) (defScope (top 236)) [] [] f fd)(hm:mg "bar_pair"=some (.ref f)):FnG P w K mg base C 83 "bar_pair" a0W:=by
 refine step (fns:=bs9) (Φ:=a4W) (N:=bh1) (ps:=b4u) pw ht G (fun x g hl=> ?_) F c1c c1d hm (FunD.bindsN F fun _ _ _ _ _ _ us hl=>match us,hl with| [_,_],_=>rfl) (by decide)
 have hmem:=aa8 hl
 simp only[bs9,List.mem_cons,Prod.mk.injEq,List.not_mem_nil,or_false]at hmem
 rcases hmem with⟨rfl,rfl⟩|⟨rfl,rfl⟩
 ·exact h16
 ·exact h11
theorem c3U (pw:P=aa0.P∧w=aa0.w)(ht: ∀t∈trs,aa4 K C t)(G:Glb K mg C glo exs)(h16:FnG P w K mg base C 83 "check_plan" aa5)(h22:FnG P w K mg base C 83 "check_keys" af6){f:Addr}{fd:FuncData}(F:FunD K "fewest_keys" "fewest_keys" (defArgs (top 197)) (defBody (top 197)) (defScope (top 197)) [] [] f fd)(hm:mg "fewest_keys"=some (.ref f)):FnG P w K mg base C 84 "fewest_keys" a0Z:=by
 refine step (fns:=bt4) (Φ:=a5a) (N:=bh3) (ps:=b4w) pw ht G (fun x g hl=> ?_) F c1e c1f hm (FunD.bindsN F fun _ _ _ _ _ _ us hl=>match us,hl with| [_,_],_=>rfl) (by decide)
 have hmem:=aa8 hl
 simp only[bt4,List.mem_cons,Prod.mk.injEq,List.not_mem_nil,or_false]at hmem
 rcases hmem with⟨rfl,rfl⟩|⟨rfl,rfl⟩
 ·exact h16
 ·exact h22
theorem c3V (pw:P=aa0.P∧w=aa0.w)(ht: ∀t∈trs,aa4 K C t)(G:Glb K mg C glo exs)(h16:FnG P w K mg base C 84 "check_plan" aa5)(h22:FnG P w K mg base C 84 "check_keys" af6){f:Addr}{fd:FuncData}(F:FunD K "needless_keys" "needless_keys" (defArgs (top 195)) (defBody (top 195)) (defScope (top 195)) [] [] f fd)(hm:mg "needless_keys"=some (.ref f)):FnG P w K mg base C 85 "needless_keys" a00:=by
 refine step (fns:=bt5) (Φ:=a5b) (N:=bh5) (ps:=b4y) pw ht G (fun x g hl=> ?_) F c1h c1i hm (FunD.bindsN F fun _ _ _ _ _ _ us hl=>match us,hl with| [_,_],_=>rfl) (by decide)
 have hmem:=aa8 hl
 simp only[bt5,List.mem_cons,Prod.mk.injEq,List.not_mem_nil,or_false]at hmem
 rcases hmem with⟨rfl,rfl⟩|⟨rfl,rfl⟩
 ·exact h16
 ·exact h22
theorem b5k {lv:Nat}(pw:P=aa0.P∧w=aa0.w)(ht: ∀t∈trs,aa4 K C t)(G:Glb K mg C glo exs)(h16:FnG P w K mg base C lv "check_plan" aa5)(h22:FnG P w K mg base C lv "check_keys" af6){f:Addr}{fd:FuncData}(F:FunD K "least_for" "least_for" (defArgs (top 209)) (defBody (top 209)) (defScope (top 209)) [] [] f fd)(hm:mg "least_for"=some (.ref f)):aW4 P w K mg base C lv "least_for" 2 1 a5e:=by
 refine cI1 (fns:=bt6) (Φ:=a01) (N:=bh6) (ps:=b4A) (Fu:=Fu) pw ht G (fun ψ x g hl=> ?_) (fun ψ j m hl hm=>match ψ,hl,j,hm with| [a0],_,0,e=>by cases e;rfl| [a0],_,(j+1),e=>by simp at e) F c1j c1k hm (FunD.bindsN F fun _ _ _ _ _ _ us hl=>match us,hl with| [_,_,_],_=>rfl) (by decide) rfl
 have hmem:=aa8 hl
 simp only[bt6,List.mem_cons,Prod.mk.injEq,List.not_mem_nil,or_false]at hmem
 rcases hmem with⟨rfl,rfl⟩|⟨rfl,rfl⟩
 ·exact h16
 ·exact h22
theorem c3Z (pw:P=aa0.P∧w=aa0.w)(ht: ∀t∈trs,aa4 K C t)(G:Glb K mg C glo exs){f:Addr}{fd:FuncData}(F:FunD K "find_added" "find_added" (defArgs (top 206)) (defBody (top 206)) (defScope (top 206)) [] [] f fd)(hm:mg "find_added_labelling"=some (.ref f)):FnG P w K mg base C 87 "find_added_labelling" aI1:=by
 refine step (fns:=b5f) (Φ:=bi1) (N:=aO9) (ps:=a5f) pw ht G (fun x g hl=> ?_) F c1m c1p hm (FunD.bindsN F fun _ _ _ _ _ _ us hl=>match us,hl with| [_,_],_=>rfl) (by decide)
 cases hl
theorem c30 (pw:P=aa0.P∧w=aa0.w)(ht: ∀t∈trs,aa4 K C t)(G:Glb K mg C glo exs)(h80:FnG P w K mg base C 87 "find_added_labelling" aI1)(k79:aW4 P w K mg base C 88 "least_for" 2 1 a5e){f:Addr}{fd:FuncData}(F:FunD K "added_label" "added_label" (defArgs (top 210)) (defBody (top 210)) (defScope (top 210)) [] [] f fd)(hm:mg "added_label"=some (.ref f)):FnG P w K mg base C 90 "added_label" aq6:=by
 exact b0B (t:="least_for") (g:="find_added_labelling") (a:="plan") (b:="keys") k79 (h80.up (by decide)) (by decide) F c1q (by decide+kernel) (by decide+kernel) hm (FunD.bindsN F fun _ _ _ _ _ _ us hl=>match us,hl with| [_,_],_=>rfl) (by decide)
theorem c31 (pw:P=aa0.P∧w=aa0.w)(ht: ∀t∈trs,aa4 K C t)(G:Glb K mg C glo exs)(h43:FnG P w K mg base C 90 "missed_pair" an4){f:Addr}{fd:FuncData}(F:FunD K "miss_nothing" "miss_nothing" (defArgs (top 194)) (defBody (top 194)) (defScope (top 194)) [] [] f fd)(hm:mg "miss_nothing"=some (.ref f)):FnG P w K mg base C 91 "miss_nothing" a02:=by
 refine step (fns:=bt7) (Φ:=bi4) (N:=bi3) (ps:=b4E) pw ht G (fun x g hl=> ?_) F c1t c1u hm (FunD.bindsN F fun _ _ _ _ _ _ us hl=>match us,hl with| [_,_],_=>rfl) (by decide)
 have hmem:=aa8 hl
 simp only[bt7,List.mem_cons,Prod.mk.injEq,List.not_mem_nil,or_false]at hmem
 rcases hmem with⟨rfl,rfl⟩
 ·exact h43
theorem c32 (pw:P=aa0.P∧w=aa0.w)(ht: ∀t∈trs,aa4 K C t)(G:Glb K mg C glo exs)(h81:FnG P w K mg base C 91 "added_label" aq6){f:Addr}{fd:FuncData}(F:FunD K "adds_labels" "adds_labels" (defArgs (top 211)) (defBody (top 211)) (defScope (top 211)) [] [] f fd)(hm:mg "adds_labels"=some (.ref f)):FnG P w K mg base C 92 "adds_labels" a03:=by
 refine step (fns:=bt8) (Φ:=bi6) (N:=bi5) (ps:=b4M) pw ht G (fun x g hl=> ?_) F c1v c1w hm (FunD.bindsN F fun _ _ _ _ _ _ us hl=>match us,hl with| [_,_],_=>rfl) (by decide)
 have hmem:=aa8 hl
 simp only[bt8,List.mem_cons,Prod.mk.injEq,List.not_mem_nil,or_false]at hmem
 rcases hmem with⟨rfl,rfl⟩
 ·exact h81
theorem c33 (pw:P=aa0.P∧w=aa0.w)(ht: ∀t∈trs,aa4 K C t)(G:Glb K mg C glo exs)(h82:FnG P w K mg base C 92 "miss_nothing" a02)(h83:FnG P w K mg base C 92 "adds_labels" a03){f:Addr}{fd:FuncData}(F:FunD K "can_stay" "can_stay" (defArgs (top 213)) (defBody (top 213)) (defScope (top 213)) [] [] f fd)(hm:mg "can_stay"=some (.ref f)):FnG P w K mg base C 93 "can_stay" a05:=by
 refine step (fns:=bu0) (Φ:=a5k) (N:=bi9) (ps:=b4O) pw ht G (fun x g hl=> ?_) F c1y c1B hm (FunD.bindsN F fun _ _ _ _ _ _ us hl=>match us,hl with| [_,_],_=>rfl) (by decide)
 have hmem:=aa8 hl
 simp only[bu0,List.mem_cons,Prod.mk.injEq,List.not_mem_nil,or_false]at hmem
 rcases hmem with⟨rfl,rfl⟩|⟨rfl,rfl⟩
 ·exact h82
 ·exact h83
theorem c34 (pw:P=aa0.P∧w=aa0.w)(ht: ∀t∈trs,aa4 K C t)(G:Glb K mg C glo exs)(h16:FnG P w K mg base C 93 "check_plan" aa5)(h22:FnG P w K mg base C 93 "check_keys" af6){f:Addr}{fd:FuncData}(F:FunD K "format_keys" "format_keys" (defArgs (top 135)) (defBody (top 135)) (defScope (top 135)) [] [] f fd)(hm:mg "format_keys"=some (.ref f)):FnG P w K mg base C 94 "format_keys" an4:=by
 refine step (fns:=bu2) (Φ:=a0n) (N:=aN7) (ps:=a4y) pw ht G (fun x g hl=> ?_) F c1C c1E hm (FunD.bindsN F fun _ _ _ _ _ _ us hl=>match us,hl with| [_,_],_=>rfl) (by decide)
 have hmem:=aa8 hl
 simp only[bu2,List.mem_cons,Prod.mk.injEq,List.not_mem_nil,or_false]at hmem
 rcases hmem with⟨rfl,rfl⟩|⟨rfl,rfl⟩
 ·exact h16
 ·exact h22
theorem c35 (pw:P=aa0.P∧w=aa0.w)(ht: ∀t∈trs,aa4 K C t)(G:Glb K mg C glo exs){f:Addr}{fd:FuncData}(F:FunD K "find_dropped" "find_dropped" (defArgs (top 208)) (defBody (top 208)) (defScope (top 208)) [] [] f fd)(hm:mg "find_dropped"=some (.ref f)):FnG P w K mg base C 95 "find_dropped" aI1:=by
 refine step (fns:=b5h) (Φ:=bi1) (N:=aO9) (ps:=a5f) pw ht G (fun x g hl=> ?_) F c1H c1I hm (FunD.bindsN F fun _ _ _ _ _ _ us hl=>match us,hl with| [_,_],_=>rfl) (by decide)
 cases hl
theorem c36 (pw:P=aa0.P∧w=aa0.w)(ht: ∀t∈trs,aa4 K C t)(G:Glb K mg C glo exs)(h86:FnG P w K mg base C 95 "find_dropped" aI1)(k79:aW4 P w K mg base C 96 "least_for" 2 1 a5e){f:Addr}{fd:FuncData}(F:FunD K "dropped_label" "dropped_label" (defArgs (top 212)) (defBody (top 212)) (defScope (top 212)) [] [] f fd)(hm:mg "dropped_label"=some (.ref f)):FnG P w K mg base C 98 "dropped_label" aq6:=by
 exact b0B (t:="least_for") (g:="find_dropped") (a:="plan") (b:="keys") k79 (h86.up (by decide)) (by decide) F c1L (by decide+kernel) (by decide+kernel) hm (FunD.bindsN F fun _ _ _ _ _ _ us hl=>match us,hl with| [_,_],_=>rfl) (by decide)
theorem c4b (pw:P=aa0.P∧w=aa0.w)(ht: ∀t∈trs,aa4 K C t)(G:Glb K mg C glo exs)(h44:FnG P w K mg base C 98 "check_text" aq5){f:Addr}{fd:FuncData}(F:FunD K "parse_plan" "parse_plan" (defArgs (top 131)) (defBody (top 131)) (defScope (top 131)) [] [] f fd)(hm:mg "parse_plan"=some (.ref f)):FnG P w K mg base C 99 "parse_plan" a06:=by
 refine step (fns:=bu3) (Φ:=bj2) (N:=bj0) (ps:=b4V) pw ht G (fun x g hl=> ?_) F c1M c1O hm (FunD.bindsN F fun _ _ _ _ _ _ us hl=>match us,hl with| [_],_=>rfl) (by decide)
 have hmem:=aa8 hl
 simp only[bu3,List.mem_cons,Prod.mk.injEq,List.not_mem_nil,or_false]at hmem
 rcases hmem with⟨rfl,rfl⟩
 ·exact h44
theorem c4d (pw:P=aa0.P∧w=aa0.w)(G:Glb K mg C glo exs)(h36:FnG P w K mg base C 99 "rule_pair" aD0)(h76:FnG P w K mg base C 99 "bar_pair" a0W)(h65:FnG P w K mg base C 99 "labels" aD5)(h66:FnG P w K mg base C 99 "common_labels" aD6)(h77:FnG P w K mg base C 99 "fewest_keys" a0Z)(h78:FnG P w K mg base C 99 "needless_keys" a00)(h81:FnG P w K mg base C 99 "added_label" aq6)(h84:FnG P w K mg base C 99 "can_stay" a05)(h85:FnG P w K mg base C 99 "format_keys" an4)(h23:FnG P w K mg base C 99 "naive_missed" aC9)(h87:FnG P w K mg base C 99 "dropped_label" aq6)(h45:FnG P w K mg base C 99 "parse_entry" aD3)(h88:FnG P w K mg base C 99 "parse_plan" a06){f:Addr}{fd:FuncData}(F:FunD K "_law_fourth" "_law_fourth" (defArgs (top 244)) (defBody (top 244)) (defScope (top 244)) [] [] f fd)(hm:mg "_law_fourth"=some (.ref f))(hT:aM3 base mg "_law_fourth" fd)(AA: ∀X:Cx,X.K=K→X.mg=mg→at8 X C "_law_all" (nmE au1)):FnG P w K mg base C 102 "_law_fourth" a5l:=by
 refine a3v (lv:=99) (fns:=aQ1) (Φ:=al9) (N:=aP0) (ps:=b43) (bs:=bj3) pw G (fun x g hl=> ?_) F c1Q c1R c1T c1U c1W hT AA hm (FunD.bindsN F fun _ _ _ _ _ _ us hl=>match us,hl with| [_,_,_,_,_,_],_=>rfl) (by decide)
 ·have hmem:=aa8 hl
  simp only[aQ1,List.mem_cons,Prod.mk.injEq,List.not_mem_nil,or_false]at hmem
  rcases hmem with⟨rfl,rfl⟩|⟨rfl,rfl⟩|⟨rfl,rfl⟩|⟨rfl,rfl⟩|⟨rfl,rfl⟩|⟨rfl,rfl⟩|⟨rfl,rfl⟩|⟨rfl,rfl⟩|⟨rfl,rfl⟩|⟨rfl,rfl⟩|⟨rfl,rfl⟩|⟨rfl,rfl⟩|⟨rfl,rfl⟩
  ·exact h36
  ·exact h76
  ·exact h65
  ·exact h66
  ·exact h77
  ·exact h78
  ·exact h81
  ·exact h84
  ·exact h85
  ·exact h23
  ·exact h87
  ·exact h45
  ·exact h88
theorem c4e (pw:P=aa0.P∧w=aa0.w)(ht: ∀t∈trs,aa4 K C t)(G:Glb K mg C glo exs){f:Addr}{fd:FuncData}(F:FunD K "_law_pick" "_law_pick" (defArgs (top 238)) (defBody (top 238)) (defScope (top 238)) [] [] f fd)(hm:mg "_law_pick"=some (.ref f)):FnG P w K mg base C 103 "_law_pick" ax5:=by
 refine step (fns:=b5i) (Φ:=aW5) (N:=a8P) (ps:=b0M) pw ht G (fun x g hl=> ?_) F c1X c1Z hm (FunD.bindsN F fun _ _ _ _ _ _ us hl=>match us,hl with| [_,_,_],_=>rfl) (by decide)
 cases hl
end
@[reducible] def bu6 (P:Program) (w:World) (K:Fr'):aa0:=⟨aA2 K tfs,P,w,0⟩
theorem facts (hlaw: ∀ns:List Int,ns.length≤63→a5r ns= .rt (.bool true)){P:Program}{w:World}{K:Fr'}{h:Heap}{mg:Str→Option Value}{f:Addr}(X:K.In h)(G:h.Ns mainGlobals mg)(hfa:mg ("law":Str)=some (.ref f))(c:He.SaysX [] fn [] (tfs.map fun p=>(p.1,none)) see w h K):
  ∃fd:FuncData,(∀(s:Shared) (v:Value),BindsTo s fd ⟨[v],[]⟩ [("script",v)])∧ ∀base:Heap,K.In base→base.Ns mainGlobals mg→(∀p∈tfs,LamX.TabB base mg (He.cT K (p.1,none)).1 (He.cT K (p.1,none)).2)→FnOk P w K mg base CX0 104 f fd ["script"] (@a7W (bu6 P w K) K):=by
 letI:aa0:=bu6 P w K
 have more:=c.more
 simp only[see,Bool.and_eq_true]at more
 obtain⟨GG,hg⟩:=cy0 X G b6A more.1.1.1.1
 have ht: ∀t∈trs,aa4 K (cAd K exs) t:=fun t h=>cx7 (List.all_eq_true.mp more.1.1.1.2 t h)
 have hex: ∀y∈ths,PySem.W.exmOne K (.ref (He.ga K y)) (.ref (He.ga K y))=some true:=fun y hy=>cy8 more.1.1.2 hy
 have hnod:a5y tfs K=true:=more.1.2
 have sd:He.SaysD [] fn K:=c.t.d
 obtain⟨fd0,F0⟩:=sd.def_ 0 (d:=mk "_law_class" 239) rfl
 obtain⟨fd1,F1⟩:=sd.def_ 1 (d:=mk "_law_all" 240) rfl
 obtain⟨fd2,F2⟩:=sd.def_ 2 (d:=mk "is_word" 32) rfl
 obtain⟨fd3,F3⟩:=sd.def_ 3 (d:=mk "is_content" 33) rfl
 obtain⟨fd4,F4⟩:=sd.def_ 4 (d:=mk "check_content" 34) rfl
 obtain⟨fd5,F5⟩:=sd.def_ 5 (d:=mk "have_word" 35) rfl
 obtain⟨fd6,F6⟩:=sd.def_ 6 (d:=mk "have_near" 36) rfl
 obtain⟨fd7,F7⟩:=sd.def_ 7 (d:=mk "does_hold" 37) rfl
 obtain⟨fd8,F8⟩:=sd.def_ 8 (d:=mk "holds" 38) rfl
 obtain⟨fd9,F9⟩:=sd.def_ 9 (d:=mk "merge_contents" 41) rfl
 obtain⟨fd10,F10⟩:=sd.def_ 10 (d:=mk "is_rising" 49) rfl
 obtain⟨fd11,F11⟩:=sd.def_ 11 (d:=mk "is_int" 48) rfl
 obtain⟨fd12,F12⟩:=sd.def_ 12 (d:=mk "is_test" 50) rfl
 obtain⟨fd13,F13⟩:=sd.def_ 13 (d:=mk "are_tests" 51) rfl
 obtain⟨fd14,F14⟩:=sd.def_ 14 (d:=mk "are_kinds" 52) rfl
 obtain⟨fd15,F15⟩:=sd.def_ 15 (d:=mk "is_plan" 53) rfl
 obtain⟨fd16,F16⟩:=sd.def_ 16 (d:=mk "check_plan" 54) rfl
 obtain⟨fd17,F17⟩:=sd.def_ 17 (d:=mk "few_entries" 217) rfl
 obtain⟨fd18,F18⟩:=sd.def_ 18 (d:=mk "naive_three" 219) rfl
 obtain⟨fd19,F19⟩:=sd.def_ 19 (d:=mk "is_part" 95) rfl
 obtain⟨fd20,F20⟩:=sd.def_ 20 (d:=mk "has_key" 96) rfl
 obtain⟨fd21,F21⟩:=sd.def_ 21 (d:=mk "have_keys" 98) rfl
 obtain⟨fd22,F22⟩:=sd.def_ 22 (d:=mk "check_keys" 101) rfl
 obtain⟨fd23,F23⟩:=sd.def_ 23 (d:=mk "naive_missed" 220) rfl
 obtain⟨fd24,F24⟩:=sd.def_ 24 (d:=mk "all_entries" 68) rfl
 obtain⟨fd25,F25⟩:=sd.def_ 25 (d:=mk "_law_first" 241) rfl
 obtain⟨fd26,F26⟩:=sd.def_ 26 (d:=mk "has_entry" 55) rfl
 obtain⟨fd27,F27⟩:=sd.def_ 27 (d:=mk "is_entry" 56) rfl
 obtain⟨fd28,F28⟩:=sd.def_ 28 (d:=mk "has_book" 58) rfl
 obtain⟨fd29,F29⟩:=sd.def_ 29 (d:=mk "is_book" 59) rfl
 obtain⟨fd30,F30⟩:=sd.def_ 30 (d:=mk "check_entry" 57) rfl
 obtain⟨fd31,F31⟩:=sd.def_ 31 (d:=mk "check_two" 74) rfl
 obtain⟨fd32,F32⟩:=sd.def_ 32 (d:=mk "has_test" 70) rfl
 obtain⟨fd33,F33⟩:=sd.def_ 33 (d:=mk "find_rules" 71) rfl
 obtain⟨fd34,F34⟩:=sd.def_ 34 (d:=mk "rules_between" 75) rfl
 obtain⟨fd35,F35⟩:=sd.def_ 35 (d:=mk "joined" 85) rfl
 obtain⟨fd36,F36⟩:=sd.def_ 36 (d:=mk "rule_pair" 232) rfl
 obtain⟨fd37,F37⟩:=sd.def_ 37 (d:=mk "is_order_free" 226) rfl
 obtain⟨fd38,F38⟩:=sd.def_ 38 (d:=mk "lost_match" 174) rfl
 obtain⟨fd39,F39⟩:=sd.def_ 39 (d:=mk "lost_word" 180) rfl
 obtain⟨fd40,F40⟩:=sd.def_ 40 (d:=mk "breaking_book" 185) rfl
 obtain⟨fd41,F41⟩:=sd.def_ 41 (d:=mk "is_key" 97) rfl
 obtain⟨fd42,F42⟩:=sd.def_ 42 (d:=mk "are_keys" 99) rfl
 obtain⟨fd43,F43⟩:=sd.def_ 43 (d:=mk "missed_pair" 193) rfl
 obtain⟨fd44,F44⟩:=sd.def_ 44 (d:=mk "check_text" 123) rfl
 obtain⟨fd45,F45⟩:=sd.def_ 45 (d:=mk "parse_entry" 126) rfl
 obtain⟨fd46,F46⟩:=sd.def_ 46 (d:=mk "check_book" 60) rfl
 obtain⟨fd47,F47⟩:=sd.def_ 47 (d:=mk "format_book" 133) rfl
 obtain⟨fd48,F48⟩:=sd.def_ 48 (d:=mk "parse_keys" 136) rfl
 obtain⟨fd49,F49⟩:=sd.def_ 49 (d:=mk "needless_rules" 233) rfl
 obtain⟨fd50,F50⟩:=sd.def_ 50 (d:=mk "needless_bars" 235) rfl
 obtain⟨fd51,F51⟩:=sd.def_ 51 (d:=mk "added_match" 176) rfl
 obtain⟨fd52,F52⟩:=sd.def_ 52 (d:=mk "keeps_matches" 175) rfl
 obtain⟨fd53,F53⟩:=sd.def_ 53 (d:=mk "adds_matches" 177) rfl
 obtain⟨fd54,F54⟩:=sd.def_ 54 (d:=mk "goes_by_groups" 184) rfl
 obtain⟨fd55,F55⟩:=sd.def_ 55 (d:=mk "format_plan" 130) rfl
 obtain⟨fd56,F56⟩:=sd.def_ 56 (d:=mk "_law_second" 242) rfl
 obtain⟨fd57,F57⟩:=sd.def_ 57 (d:=mk "count_words" 63) rfl
 obtain⟨fd58,F58⟩:=sd.def_ 58 (d:=mk "find_bars" 72) rfl
 obtain⟨fd59,F59⟩:=sd.def_ 59 (d:=mk "find_match" 73) rfl
 obtain⟨fd60,F60⟩:=sd.def_ 60 (d:=mk "do_match" 77) rfl
 obtain⟨fd61,F61⟩:=sd.def_ 61 (d:=mk "check_match" 83) rfl
 obtain⟨fd62,F62⟩:=sd.def_ 62 (d:=mk "merged" 84) rfl
 obtain⟨fd63,F63⟩:=sd.def_ 63 (d:=mk "two_ways" 90) rfl
 obtain⟨fd64,F64⟩:=sd.def_ 64 (d:=mk "check_key" 100) rfl
 obtain⟨fd65,F65⟩:=sd.def_ 65 (d:=mk "labels" 104) rfl
 obtain⟨fd66,F66⟩:=sd.def_ 66 (d:=mk "common_labels" 107) rfl
 obtain⟨fd67,F67⟩:=sd.def_ 67 (d:=mk "share_label" 108) rfl
 obtain⟨fd68,F68⟩:=sd.def_ 68 (d:=mk "format_entry" 122) rfl
 obtain⟨fd69,F69⟩:=sd.def_ 69 (d:=mk "bars_between" 76) rfl
 obtain⟨fd70,F70⟩:=sd.def_ 70 (d:=mk "matches" 79) rfl
 obtain⟨fd71,F71⟩:=sd.def_ 71 (d:=mk "check_place" 61) rfl
 obtain⟨fd72,F72⟩:=sd.def_ 72 (d:=mk "step" 87) rfl
 obtain⟨fd73,F73⟩:=sd.def_ 73 (d:=mk "groups" 183) rfl
 obtain⟨fd74,F74⟩:=sd.def_ 74 (d:=mk "is_done" 80) rfl
 obtain⟨fd75,F75⟩:=sd.def_ 75 (d:=mk "_law_third" 243) rfl
 obtain⟨fd76,F76⟩:=sd.def_ 76 (d:=mk "bar_pair" 236) rfl
 obtain⟨fd77,F77⟩:=sd.def_ 77 (d:=mk "fewest_keys" 197) rfl
 obtain⟨fd78,F78⟩:=sd.def_ 78 (d:=mk "needless_keys" 195) rfl
 obtain⟨fd79,F79⟩:=sd.def_ 79 (d:=mk "least_for" 209) rfl
 obtain⟨fd80,F80⟩:=sd.def_ 80 (d:=mk2 "find_added_labelling" "find_added" 206) rfl
 obtain⟨fd81,F81⟩:=sd.def_ 81 (d:=mk "added_label" 210) rfl
 obtain⟨fd82,F82⟩:=sd.def_ 82 (d:=mk "miss_nothing" 194) rfl
 obtain⟨fd83,F83⟩:=sd.def_ 83 (d:=mk "adds_labels" 211) rfl
 obtain⟨fd84,F84⟩:=sd.def_ 84 (d:=mk "can_stay" 213) rfl
 obtain⟨fd85,F85⟩:=sd.def_ 85 (d:=mk "format_keys" 135) rfl
 obtain⟨fd86,F86⟩:=sd.def_ 86 (d:=mk "find_dropped" 208) rfl
 obtain⟨fd87,F87⟩:=sd.def_ 87 (d:=mk "dropped_label" 212) rfl
 obtain⟨fd88,F88⟩:=sd.def_ 88 (d:=mk "parse_plan" 131) rfl
 obtain⟨fd89,F89⟩:=sd.def_ 89 (d:=mk "_law_fourth" 244) rfl
 obtain⟨fd90,F90⟩:=sd.def_ 90 (d:=mk "_law_pick" 238) rfl
 obtain⟨fd91,F91⟩:=sd.def_ 91 (d:=mk "law" 245) rfl
 have e:=hfa.symm.trans (hg "law" (by decide))
 cases e
 have b:=FunD.bindsA (ps:=["script"]) F91 fun _ _ _ _ _ _ us hl=>match us,hl with| [_],_=>rfl
 refine⟨fd91,fun s v=>b s [v] rfl,fun base _ _ TB=> ?_⟩
 have hE:a5z exs aR3 a5E 0 K=true:=more.2
 unfold a5z at hE
 rw[Bool.and_eq_true]at hE
 have nmA:aM4 K mg (cAd K exs) "_law_class" (nmE au1):=cH9 (cls:=aR3) GG (He.free_ok X G hE.2) hE.1 F0 (hg "_law_class" (by decide)) sc0 (FunD.bindsN F0 fun _ _ _ _ _ _ us hl=>match us,hl with| [_],_=>rfl) ls0 lc0 (by decide)
 have allA: ∀X:Cx,X.K=K→X.mg=mg→at8 X (cAd K exs) "_law_all" (nmE au1):=cI0 (cls:=aR3) GG hE.1 nmA F1 (hg "_law_all" (by decide)) sc1 (FunD.bindsN F1 fun _ _ _ _ _ _ us hl=>match us,hl with| [_,_],_=>rfl) lc1 ls1 rfl (by decide)
 have q2:FnG P w K mg base (cAd K exs) 3 "is_word" aN2:=fn2 ⟨rfl,rfl⟩ ht GG F2 (hg "is_word" (by decide))
 have q3:FnG P w K mg base (cAd K exs) 4 "is_content" aB0:=fn3 ⟨rfl,rfl⟩ ht GG (q2.up (by decide)) F3 (hg "is_content" (by decide))
 have q4:FnG P w K mg base (cAd K exs) 5 "check_content" al1:=fn4 ⟨rfl,rfl⟩ ht GG (q3.up (by decide)) F4 (hg "check_content" (by decide))
 have q5:FnG P w K mg base (cAd K exs) 6 "have_word" aW9:=fn5 ⟨rfl,rfl⟩ ht GG F5 (hg "have_word" (by decide))
 have q6:FnG P w K mg base (cAd K exs) 7 "have_near" aX0:=fn6 ⟨rfl,rfl⟩ ht GG F6 (hg "have_near" (by decide))
 have q7:FnG P w K mg base (cAd K exs) 8 "does_hold" aB3:=fn7 ⟨rfl,rfl⟩ ht GG (q5.up (by decide)) (q6.up (by decide)) F7 (hg "does_hold" (by decide))
 have q8:FnG P w K mg base (cAd K exs) 9 "holds" aX2:=fn8 ⟨rfl,rfl⟩ ht GG (q4.up (by decide)) (q7.up (by decide)) F8 (hg "holds" (by decide))
 have q9:FnG P w K mg base (cAd K exs) 10 "merge_contents" a0e:=fn9 ⟨rfl,rfl⟩ ht GG (q4.up (by decide)) F9 (hg "merge_contents" (by decide))
 have q10:FnG P w K mg base (cAd K exs) 11 "is_rising" al7:=c14 ⟨rfl,rfl⟩ ht GG F10 (hg "is_rising" (by decide))
 have q11:FnG P w K mg base (cAd K exs) 12 "is_int" ah8:=c15 ⟨rfl,rfl⟩ ht GG F11 (hg "is_int" (by decide))
 have q12:FnG P w K mg base (cAd K exs) 13 "is_test" aX3:=c17 ⟨rfl,rfl⟩ ht GG (q11.up (by decide)) F12 (hg "is_test" (by decide))
 have q13:FnG P w K mg base (cAd K exs) 14 "are_tests" aX4:=c18 ⟨rfl,rfl⟩ ht GG (q10.up (by decide)) (q12.up (by decide)) F13 (hg "are_tests" (by decide))
 have q14:FnG P w K mg base (cAd K exs) 15 "are_kinds" aY0:=c2a ⟨rfl,rfl⟩ ht GG F14 (hg "are_kinds" (by decide))
 have q15:FnG P w K mg base (cAd K exs) 16 "is_plan" aY3:=c2c ⟨rfl,rfl⟩ ht GG (q13.up (by decide)) (q14.up (by decide)) (q10.up (by decide)) F15 (hg "is_plan" (by decide))
 have q16:FnG P w K mg base (cAd K exs) 17 "check_plan" aa5:=c2d ⟨rfl,rfl⟩ ht GG (q15.up (by decide)) F16 (hg "check_plan" (by decide))
 have q17:FnG P w K mg base (cAd K exs) 18 "few_entries" aC5:=c2f ⟨rfl,rfl⟩ ht GG (q4.up (by decide)) F17 (hg "few_entries" (by decide))
 have q18:FnG P w K mg base (cAd K exs) 19 "naive_three" a0h:=c2j ⟨rfl,rfl⟩ ht GG (q16.up (by decide)) (q17.up (by decide)) F18 (hg "naive_three" (by decide))
 have q19:FnG P w K mg base (cAd K exs) 20 "is_part" aY9:=c2k ⟨rfl,rfl⟩ ht GG (q11.up (by decide)) F19 (hg "is_part" (by decide))
 have q20:FnG P w K mg base (cAd K exs) 21 "has_key" aq2:=c2n ⟨rfl,rfl⟩ ht GG (q10.up (by decide)) (q19.up (by decide)) F20 (hg "has_key" (by decide))
 have q21:FnG P w K mg base (cAd K exs) 22 "have_keys" aC3:=c2o ⟨rfl,rfl⟩ ht GG (q10.up (by decide)) (q20.up (by decide)) F21 (hg "have_keys" (by decide))
 have q22:FnG P w K mg base (cAd K exs) 23 "check_keys" af6:=c2s ⟨rfl,rfl⟩ ht GG (q21.up (by decide)) F22 (hg "check_keys" (by decide))
 have q23:FnG P w K mg base (cAd K exs) 24 "naive_missed" aC9:=c2u ⟨rfl,rfl⟩ ht GG (q16.up (by decide)) (q22.up (by decide)) (q17.up (by decide)) F23 (hg "naive_missed" (by decide))
 have q24:FnG P w K mg base (cAd K exs) 25 "all_entries" a0k:=c2v ⟨rfl,rfl⟩ ht GG (q16.up (by decide)) (q4.up (by decide)) F24 (hg "all_entries" (by decide))
 have q25:FnG P w K mg base (cAd K exs) 28 "_law_first" a4k:=c2w ⟨rfl,rfl⟩ GG (q8.up (by decide)) (q9.up (by decide)) (q18.up (by decide)) (q23.up (by decide)) (q24.up (by decide)) F25 (hg "_law_first" (by decide)) (a3o (g:="_law_first") hnod (by decide) F25 (TB ("_law_first","_law_first") (by decide))) allA
 have q26:FnG P w K mg base (cAd K exs) 29 "has_entry" aq0:=c2x ⟨rfl,rfl⟩ ht GG (q3.up (by decide)) F26 (hg "has_entry" (by decide))
 have q27:FnG P w K mg base (cAd K exs) 30 "is_entry" a0l:=c2y ⟨rfl,rfl⟩ ht GG (q16.up (by decide)) (q26.up (by decide)) F27 (hg "is_entry" (by decide))
 have q28:FnG P w K mg base (cAd K exs) 31 "has_book" aB4:=c2B ⟨rfl,rfl⟩ ht GG (q26.up (by decide)) F28 (hg "has_book" (by decide))
 have q29:FnG P w K mg base (cAd K exs) 32 "is_book" a0c:=c2C ⟨rfl,rfl⟩ ht GG (q16.up (by decide)) (q28.up (by decide)) F29 (hg "is_book" (by decide))
 have q30:FnG P w K mg base (cAd K exs) 33 "check_entry" af8:=c2E ⟨rfl,rfl⟩ ht GG (q26.up (by decide)) F30 (hg "check_entry" (by decide))
 have q31:FnG P w K mg base (cAd K exs) 34 "check_two" ai2:=c2H ⟨rfl,rfl⟩ ht GG (q16.up (by decide)) (q30.up (by decide)) F31 (hg "check_two" (by decide))
 have q32:FnG P w K mg base (cAd K exs) 35 "has_test" aB7:=c2I ⟨rfl,rfl⟩ ht GG (q7.up (by decide)) F32 (hg "has_test" (by decide))
 have q33:FnG P w K mg base (cAd K exs) 36 "find_rules" aB8:=c2K ⟨rfl,rfl⟩ ht GG (q32.up (by decide)) F33 (hg "find_rules" (by decide))
 have q34:FnG P w K mg base (cAd K exs) 37 "rules_between" aY5:=c2L ⟨rfl,rfl⟩ ht GG (q31.up (by decide)) (q33.up (by decide)) F34 (hg "rules_between" (by decide))
 have q35:FnG P w K mg base (cAd K exs) 38 "joined" a0m:=c2O ⟨rfl,rfl⟩ ht GG (q31.up (by decide)) F35 (hg "joined" (by decide))
 have q36:FnG P w K mg base (cAd K exs) 39 "rule_pair" aD0:=c2Q ⟨rfl,rfl⟩ ht GG (q16.up (by decide)) (q11.up (by decide)) F36 (hg "rule_pair" (by decide))
 have q37:FnG P w K mg base (cAd K exs) 40 "is_order_free" af4:=c2S ⟨rfl,rfl⟩ ht GG (q16.up (by decide)) F37 (hg "is_order_free" (by decide))
 have q38:FnG P w K mg base (cAd K exs) 41 "lost_match" af4:=c2T ⟨rfl,rfl⟩ ht GG (q16.up (by decide)) F38 (hg "lost_match" (by decide))
 have q39:FnG P w K mg base (cAd K exs) 42 "lost_word" aD1:=c2V ⟨rfl,rfl⟩ ht GG (q16.up (by decide)) F39 (hg "lost_word" (by decide))
 have q40:FnG P w K mg base (cAd K exs) 43 "breaking_book" aD1:=c2W ⟨rfl,rfl⟩ ht GG (q16.up (by decide)) F40 (hg "breaking_book" (by decide))
 have q41:FnG P w K mg base (cAd K exs) 44 "is_key" aZ2:=c23 ⟨rfl,rfl⟩ ht GG (q16.up (by decide)) (q20.up (by decide)) F41 (hg "is_key" (by decide))
 have q42:FnG P w K mg base (cAd K exs) 45 "are_keys" aZ1:=c24 ⟨rfl,rfl⟩ ht GG (q16.up (by decide)) (q21.up (by decide)) F42 (hg "are_keys" (by decide))
 have q43:FnG P w K mg base (cAd K exs) 46 "missed_pair" an4:=c25 ⟨rfl,rfl⟩ ht GG (q16.up (by decide)) (q22.up (by decide)) F43 (hg "missed_pair" (by decide))
 have q44:FnG P w K mg base (cAd K exs) 47 "check_text" aq5:=c27 ⟨rfl,rfl⟩ ht GG F44 (hg "check_text" (by decide))
 have q45:FnG P w K mg base (cAd K exs) 48 "parse_entry" aD3:=c3a ⟨rfl,rfl⟩ ht GG (q16.up (by decide)) (q44.up (by decide)) F45 (hg "parse_entry" (by decide))
 have q46:FnG P w K mg base (cAd K exs) 49 "check_book" at9:=c3c ⟨rfl,rfl⟩ ht GG (q28.up (by decide)) F46 (hg "check_book" (by decide))
 have q47:FnG P w K mg base (cAd K exs) 50 "format_book" aj5:=c3e ⟨rfl,rfl⟩ ht GG (q16.up (by decide)) (q46.up (by decide)) F47 (hg "format_book" (by decide))
 have q48:FnG P w K mg base (cAd K exs) 51 "parse_keys" a0p:=c3f ⟨rfl,rfl⟩ ht GG (q16.up (by decide)) (q44.up (by decide)) F48 (hg "parse_keys" (by decide))
 have q49:FnG P w K mg base (cAd K exs) 52 "needless_rules" a0s:=c3h ⟨rfl,rfl⟩ ht GG (q16.up (by decide)) F49 (hg "needless_rules" (by decide))
 have q50:FnG P w K mg base (cAd K exs) 53 "needless_bars" af4:=c3k ⟨rfl,rfl⟩ ht GG (q16.up (by decide)) F50 (hg "needless_bars" (by decide))
 have q51:FnG P w K mg base (cAd K exs) 54 "added_match" af4:=c3l ⟨rfl,rfl⟩ ht GG (q16.up (by decide)) F51 (hg "added_match" (by decide))
 have q52:FnG P w K mg base (cAd K exs) 55 "keeps_matches" a0t:=c3m ⟨rfl,rfl⟩ ht GG (q38.up (by decide)) F52 (hg "keeps_matches" (by decide))
 have q53:FnG P w K mg base (cAd K exs) 56 "adds_matches" a0A:=c3o ⟨rfl,rfl⟩ ht GG (q51.up (by decide)) F53 (hg "adds_matches" (by decide))
 have q54:FnG P w K mg base (cAd K exs) 57 "goes_by_groups" a0B:=c3q ⟨rfl,rfl⟩ ht GG (q52.up (by decide)) (q53.up (by decide)) F54 (hg "goes_by_groups" (by decide))
 have q55:FnG P w K mg base (cAd K exs) 58 "format_plan" af4:=c3r ⟨rfl,rfl⟩ ht GG (q16.up (by decide)) F55 (hg "format_plan" (by decide))
 have q56:FnG P w K mg base (cAd K exs) 61 "_law_second" a4J:=c3t ⟨rfl,rfl⟩ GG (q27.up (by decide)) (q29.up (by decide)) (q34.up (by decide)) (q35.up (by decide)) (q36.up (by decide)) (q37.up (by decide)) (q38.up (by decide)) (q39.up (by decide)) (q40.up (by decide)) (q41.up (by decide)) (q42.up (by decide)) (q43.up (by decide)) (q45.up (by decide)) (q47.up (by decide)) (q48.up (by decide)) (q49.up (by decide)) (q50.up (by decide)) (q51.up (by decide)) (q54.up (by decide)) (q55.up (by decide)) F56 (hg "_law_second" (by decide)) (a3o (g:="_law_second") hnod (by decide) F56 (TB ("_law_second","_law_second") (by decide))) allA
 have q57:FnG P w K mg base (cAd K exs) 62 "count_words" a0D:=c3u ⟨rfl,rfl⟩ ht GG (q16.up (by decide)) (q30.up (by decide)) F57 (hg "count_words" (by decide))
 have q58:FnG P w K mg base (cAd K exs) 63 "find_bars" aB9:=c3v ⟨rfl,rfl⟩ ht GG (q32.up (by decide)) F58 (hg "find_bars" (by decide))
 have q59:FnG P w K mg base (cAd K exs) 64 "find_match" aC0:=c3w ⟨rfl,rfl⟩ ht GG (q33.up (by decide)) (q58.up (by decide)) F59 (hg "find_match" (by decide))
 have q60:FnG P w K mg base (cAd K exs) 65 "do_match" aY7:=fn60 ⟨rfl,rfl⟩ ht GG (q31.up (by decide)) (q59.up (by decide)) F60 (hg "do_match" (by decide))
 have q61:FnG P w K mg base (cAd K exs) 66 "check_match" aq4:=c3x ⟨rfl,rfl⟩ ht GG (q59.up (by decide)) F61 (hg "check_match" (by decide))
 have q62:FnG P w K mg base (cAd K exs) 67 "merged" a0F:=c3y ⟨rfl,rfl⟩ ht GG (q31.up (by decide)) (q61.up (by decide)) F62 (hg "merged" (by decide))
 have q63:FnG P w K mg base (cAd K exs) 68 "two_ways" a0K:=c3z ⟨rfl,rfl⟩ ht GG (q16.up (by decide)) (q61.up (by decide)) (q30.up (by decide)) F63 (hg "two_ways" (by decide))
 have q64:FnG P w K mg base (cAd K exs) 69 "check_key" aZ5:=c3B ⟨rfl,rfl⟩ ht GG (q20.up (by decide)) F64 (hg "check_key" (by decide))
 have q65:FnG P w K mg base (cAd K exs) 70 "labels" aD5:=c3C ⟨rfl,rfl⟩ ht GG (q16.up (by decide)) (q64.up (by decide)) (q30.up (by decide)) F65 (hg "labels" (by decide))
 have q66:FnG P w K mg base (cAd K exs) 71 "common_labels" aD6:=c3D ⟨rfl,rfl⟩ ht GG (q16.up (by decide)) (q22.up (by decide)) (q30.up (by decide)) F66 (hg "common_labels" (by decide))
 have q67:FnG P w K mg base (cAd K exs) 72 "share_label" a0N:=c3E ⟨rfl,rfl⟩ ht GG (q66.up (by decide)) F67 (hg "share_label" (by decide))
 have q68:FnG P w K mg base (cAd K exs) 73 "format_entry" a0Q:=c3K ⟨rfl,rfl⟩ ht GG (q16.up (by decide)) (q30.up (by decide)) F68 (hg "format_entry" (by decide))
 have q69:FnG P w K mg base (cAd K exs) 74 "bars_between" aY4:=c3L ⟨rfl,rfl⟩ ht GG (q31.up (by decide)) (q58.up (by decide)) F69 (hg "bars_between" (by decide))
 have q70:FnG P w K mg base (cAd K exs) 75 "matches" aj5:=c3M ⟨rfl,rfl⟩ ht GG (q16.up (by decide)) (q46.up (by decide)) F70 (hg "matches" (by decide))
 have q71:FnG P w K mg base (cAd K exs) 76 "check_place" aZ9:=c3N ⟨rfl,rfl⟩ ht GG (q11.up (by decide)) F71 (hg "check_place" (by decide))
 have q72:FnG P w K mg base (cAd K exs) 77 "step" a0S:=c3O ⟨rfl,rfl⟩ ht GG (q16.up (by decide)) (q46.up (by decide)) (q71.up (by decide)) (q61.up (by decide)) F72 (hg "step" (by decide))
 have q73:FnG P w K mg base (cAd K exs) 78 "groups" aj5:=c3P ⟨rfl,rfl⟩ ht GG (q16.up (by decide)) (q46.up (by decide)) F73 (hg "groups" (by decide))
 have q74:FnG P w K mg base (cAd K exs) 79 "is_done" a0T:=c3Q ⟨rfl,rfl⟩ ht GG (q70.up (by decide)) F74 (hg "is_done" (by decide))
 have q75:FnG P w K mg base (cAd K exs) 82 "_law_third" a4V:=c3S ⟨rfl,rfl⟩ GG (q57.up (by decide)) (q60.up (by decide)) (q62.up (by decide)) (q63.up (by decide)) (q65.up (by decide)) (q67.up (by decide)) (q68.up (by decide)) (q69.up (by decide)) (q70.up (by decide)) (q72.up (by decide)) (q73.up (by decide)) (q74.up (by decide)) F75 (hg "_law_third" (by decide)) (a3o (g:="_law_third") hnod (by decide) F75 (TB ("_law_third","_law_third") (by decide))) allA
 have q76:FnG P w K mg base (cAd K exs) 83 "bar_pair" a0W:=c3T ⟨rfl,rfl⟩ ht GG (q16.up (by decide)) (q11.up (by decide)) F76 (hg "bar_pair" (by decide))
 have q77:FnG P w K mg base (cAd K exs) 84 "fewest_keys" a0Z:=c3U ⟨rfl,rfl⟩ ht GG (q16.up (by decide)) (q22.up (by decide)) F77 (hg "fewest_keys" (by decide))
 have q78:FnG P w K mg base (cAd K exs) 85 "needless_keys" a00:=c3V ⟨rfl,rfl⟩ ht GG (q16.up (by decide)) (q22.up (by decide)) F78 (hg "needless_keys" (by decide))
 have q80:FnG P w K mg base (cAd K exs) 87 "find_added_labelling" aI1:=c3Z ⟨rfl,rfl⟩ ht GG F80 (hg "find_added_labelling" (by decide))
 have q81:FnG P w K mg base (cAd K exs) 90 "added_label" aq6:=c30 ⟨rfl,rfl⟩ ht GG (q80.up (by decide)) (b5k (lv:=88) ⟨rfl,rfl⟩ ht GG (q16.up (by decide)) (q22.up (by decide)) F79 (hg "least_for" (by decide))) F81 (hg "added_label" (by decide))
 have q82:FnG P w K mg base (cAd K exs) 91 "miss_nothing" a02:=c31 ⟨rfl,rfl⟩ ht GG (q43.up (by decide)) F82 (hg "miss_nothing" (by decide))
 have q83:FnG P w K mg base (cAd K exs) 92 "adds_labels" a03:=c32 ⟨rfl,rfl⟩ ht GG (q81.up (by decide)) F83 (hg "adds_labels" (by decide))
 have q84:FnG P w K mg base (cAd K exs) 93 "can_stay" a05:=c33 ⟨rfl,rfl⟩ ht GG (q82.up (by decide)) (q83.up (by decide)) F84 (hg "can_stay" (by decide))
 have q85:FnG P w K mg base (cAd K exs) 94 "format_keys" an4:=c34 ⟨rfl,rfl⟩ ht GG (q16.up (by decide)) (q22.up (by decide)) F85 (hg "format_keys" (by decide))
 have q86:FnG P w K mg base (cAd K exs) 95 "find_dropped" aI1:=c35 ⟨rfl,rfl⟩ ht GG F86 (hg "find_dropped" (by decide))
 have q87:FnG P w K mg base (cAd K exs) 98 "dropped_label" aq6:=c36 ⟨rfl,rfl⟩ ht GG (q86.up (by decide)) (b5k (lv:=96) ⟨rfl,rfl⟩ ht GG (q16.up (by decide)) (q22.up (by decide)) F79 (hg "least_for" (by decide))) F87 (hg "dropped_label" (by decide))
 have q88:FnG P w K mg base (cAd K exs) 99 "parse_plan" a06:=c4b ⟨rfl,rfl⟩ ht GG (q44.up (by decide)) F88 (hg "parse_plan" (by decide))
 have q89:FnG P w K mg base (cAd K exs) 102 "_law_fourth" a5l:=c4d ⟨rfl,rfl⟩ GG (q36.up (by decide)) (q76.up (by decide)) (q65.up (by decide)) (q66.up (by decide)) (q77.up (by decide)) (q78.up (by decide)) (q81.up (by decide)) (q84.up (by decide)) (q85.up (by decide)) (q23.up (by decide)) (q87.up (by decide)) (q45.up (by decide)) (q88.up (by decide)) F89 (hg "_law_fourth" (by decide)) (a3o (g:="_law_fourth") hnod (by decide) F89 (TB ("_law_fourth","_law_fourth") (by decide))) allA
 have q90:FnG P w K mg base (cAd K exs) 103 "_law_pick" ax5:=c4e ⟨rfl,rfl⟩ ht GG F90 (hg "_law_pick" (by decide))
 refine cH2 (fns:=bu5) (Φ:=aP5) (N:=aP4) (lv:=103) (Fu:=Fu) (fms:=aI2) ⟨rfl,rfl⟩ GG (fun x g hl=> ?_) (fun p hp=> ?_) F91 c10 c13 hlaw
 ·have hmem:=aa8 hl
  simp only[bu5,List.mem_cons,Prod.mk.injEq,List.not_mem_nil,or_false]at hmem
  rcases hmem with⟨rfl,rfl⟩
  ·exact q90.up (by decide)
 ·simp only[aI2,List.mem_cons,List.not_mem_nil,or_false]at hp
  rcases hp with rfl|rfl|rfl|rfl
  ·exact q25.up (by decide)
  ·exact q56.up (by decide)
  ·exact q75.up (by decide)
  ·exact q89.up (by decide)
open PySem.W PySem.Calls in
theorem holds_of (hlaw: ∀ns:List Int,ns.length≤63→a5r ns= .rt (.bool true)):PySem.Challenge.rw_sameentries_k40_errors.Holds:=by
 refine b6y ?hc
 case hc=>
  refine Fz.cz2 (l:=PySem.Challenge.rw_sameentries_k40_errors) (n:=63) (k:=104) (x:="script") rfl (by decide) (by kernel_rfl) ⟨rfl,by decide,by decide⟩ ?F
  intro w mg fa h Y G hmg0
  obtain⟨K,KX,c⟩:=Y
  have hmg:mg ("law":PySem.Str)=some (.ref fa):=by
   have e:(HandSHeadRun.topDef (OpenLaw.row PySem.Challenge.rw_sameentries_k40_errors).prog 245).name=("law":PySem.Str):=by kernel_rfl
   rw[←e]
   exact hmg0
  obtain⟨fd,hb,hF⟩:=facts hlaw (P:=(PySem.Challenge.rw_sameentries_k40_errors).prog) (w:=w) KX G hmg c
  refine⟨K,fd,tfs.map (fun p=>He.cT K (p.1,none)),@a7W (bu6 (PySem.Challenge.rw_sameentries_k40_errors).prog w K) K,KX,?_,?_,?_,hb,fun H a ns hl hT hS=>⟨a,ns,rfl,hl,?_,hS,fun _=>rfl⟩,fun base k1 k2 k3=>hF base k1 k2 (fun p hp=>k3 _ (List.mem_map.mpr ⟨p,hp,rfl⟩))⟩
  ·intro p hp
   obtain⟨x,hx,rfl⟩:=List.mem_map.mp hp
   exact c.empty (x.1,none) (List.mem_map.mpr ⟨x,hx,rfl⟩)
  ·intro p hp
   obtain⟨x,hx,rfl⟩:=List.mem_map.mp hp
   exact c.out (x.1,none) (List.mem_map.mpr ⟨x,hx,rfl⟩)
  ·intro p hp
   obtain⟨x,hx,rfl⟩:=List.mem_map.mp hp
   exact PySem.W.codeHd_of_K KX (c.hd (x.1,none) (List.mem_map.mpr ⟨x,hx,rfl⟩))
  ·intro p hp
   have hp':p∈aA2 K tfs:=hp
   unfold aA2 at hp'
   obtain⟨x,hx,rfl⟩:=List.mem_map.mp hp'
   exact LamX.TabS.nil (hT _ (List.mem_map.mpr ⟨x,hx,rfl⟩))
end Lw
set_option maxHeartbeats 4000000
namespace Lw
open PySem PySem.Spec L2 Fz
def Lt (a b:D):Prop:=PySem.W.alike a b=true∧ltD a b=true
abbrev Tst:=Nat×Str
structure Pl where
 kinds:List Str
 rules:List (List Tst)
 bars:List Tst
abbrev En:=List (List Str)
@[simp] theorem dy4 (t:List Str):o1 .isStr (ct t)= .ok (.bool false):=rfl
@[simp] theorem dy5 (t:List Str):o1 .isTup (ct t)= .ok (.bool true):=rfl
@[simp] theorem dy8 (t:List Str):o1 .ag4 (ct t)= .ok (.bool false):=rfl
@[simp] theorem dy9 (t:List Str):o1 .isInt (ct t)= .ok (.bool false):=rfl
@[simp] theorem dz0 (t:List Str):o1 .isBool (ct t)= .ok (.bool false):=rfl
end Lw
namespace Lw
open PySem PySem.Spec L2 Fz
@[simp] theorem dz3:(Str.ofString "same"=Str.ofString "near")=False:=eq_false (by decide+kernel)
@[simp] theorem dz5:(Str.ofString "same"=Str.ofString "unlike")=False:=eq_false (by decide+kernel)
@[simp] theorem dz6:(Str.ofString "same"=Str.ofString "far")=False:=eq_false (by decide+kernel)
@[simp] theorem dz9:(Str.ofString "same"=Str.ofString "both")=False:=eq_false (by decide+kernel)
@[simp] theorem dA1:(Str.ofString "near"=Str.ofString "same")=False:=eq_false (by decide+kernel)
@[simp] theorem dA3:(Str.ofString "near"=Str.ofString "unlike")=False:=eq_false (by decide+kernel)
@[simp] theorem dA4:(Str.ofString "near"=Str.ofString "far")=False:=eq_false (by decide+kernel)
@[simp] theorem dA5:(Str.ofString "near"=Str.ofString "both")=False:=eq_false (by decide+kernel)
@[simp] theorem dA6:(Str.ofString "unlike"=Str.ofString "same")=False:=eq_false (by decide+kernel)
@[simp] theorem dB0:(Str.ofString "unlike"=Str.ofString "near")=False:=eq_false (by decide+kernel)
@[simp] theorem dB1:(Str.ofString "unlike"=Str.ofString "far")=False:=eq_false (by decide+kernel)
@[simp] theorem dB2:(Str.ofString "unlike"=Str.ofString "both")=False:=eq_false (by decide+kernel)
@[simp] theorem dB3:(Str.ofString "far"=Str.ofString "same")=False:=eq_false (by decide+kernel)
@[simp] theorem dB6:(Str.ofString "far"=Str.ofString "near")=False:=eq_false (by decide+kernel)
@[simp] theorem dB7:(Str.ofString "far"=Str.ofString "unlike")=False:=eq_false (by decide+kernel)
@[simp] theorem dC0:(Str.ofString "far"=Str.ofString "both")=False:=eq_false (by decide+kernel)
@[simp] theorem dC1:(Str.ofString "both"=Str.ofString "same")=False:=eq_false (by decide+kernel)
@[simp] theorem dC4:(Str.ofString "both"=Str.ofString "near")=False:=eq_false (by decide+kernel)
@[simp] theorem dC5:(Str.ofString "both"=Str.ofString "unlike")=False:=eq_false (by decide+kernel)
@[simp] theorem dC6:(Str.ofString "both"=Str.ofString "far")=False:=eq_false (by decide+kernel)
@[simp] theorem dC7:(Str.ofString "all"=Str.ofString "shared")=False:=eq_false (by decide+kernel)
@[simp] theorem dC9:(Str.ofString "all"=Str.ofString "least")=False:=eq_false (by decide+kernel)
@[simp] theorem dD0:(Str.ofString "all"=Str.ofString "greatest")=False:=eq_false (by decide+kernel)
@[simp] theorem dD1:(Str.ofString "all"=Str.ofString "agreed")=False:=eq_false (by decide+kernel)
@[simp] theorem dD3:(Str.ofString "shared"=Str.ofString "all")=False:=eq_false (by decide+kernel)
@[simp] theorem dD4:(Str.ofString "shared"=Str.ofString "least")=False:=eq_false (by decide+kernel)
@[simp] theorem dD5:(Str.ofString "shared"=Str.ofString "greatest")=False:=eq_false (by decide+kernel)
@[simp] theorem dD6:(Str.ofString "shared"=Str.ofString "agreed")=False:=eq_false (by decide+kernel)
@[simp] theorem dD7:(Str.ofString "least"=Str.ofString "all")=False:=eq_false (by decide+kernel)
@[simp] theorem dE0:(Str.ofString "least"=Str.ofString "shared")=False:=eq_false (by decide+kernel)
@[simp] theorem dE2:(Str.ofString "least"=Str.ofString "greatest")=False:=eq_false (by decide+kernel)
@[simp] theorem dE3:(Str.ofString "least"=Str.ofString "agreed")=False:=eq_false (by decide+kernel)
@[simp] theorem dE4:(Str.ofString "greatest"=Str.ofString "all")=False:=eq_false (by decide+kernel)
@[simp] theorem dE7:(Str.ofString "greatest"=Str.ofString "shared")=False:=eq_false (by decide+kernel)
@[simp] theorem dE8:(Str.ofString "greatest"=Str.ofString "least")=False:=eq_false (by decide+kernel)
@[simp] theorem dE9:(Str.ofString "greatest"=Str.ofString "agreed")=False:=eq_false (by decide+kernel)
@[simp] theorem dF0:(Str.ofString "agreed"=Str.ofString "all")=False:=eq_false (by decide+kernel)
@[simp] theorem dF2:(Str.ofString "agreed"=Str.ofString "shared")=False:=eq_false (by decide+kernel)
@[simp] theorem dF3:(Str.ofString "agreed"=Str.ofString "least")=False:=eq_false (by decide+kernel)
@[simp] theorem dF5:(Str.ofString "agreed"=Str.ofString "greatest")=False:=eq_false (by decide+kernel)
theorem b5l {α:Type}(xs:List α)(k:Nat):cutD xs (some (k:Int)) none=xs.drop k:=by
 unfold cutD
 rw[HT.sIx_nat,HT.sIx_none]
 rcases Nat.le_total k xs.length with h|h
 ·rw[Nat.min_eq_left h]
  exact List.take_of_length_le (by simp)
 ·rw[Nat.min_eq_right h]
  rw[List.drop_of_length_le (Nat.le_refl _),List.drop_of_length_le h];simp
@[simp] theorem dF6 (xs:List D):o2 .from (.tuple xs) (.int 1)= .ok (.tuple xs.tail):=by
 show R.ok (PyData.tuple (cutD xs (some ((1:Nat):Int)) none))=_
 rw[b5l,List.drop_one]
@[simp] theorem dF8 (xs:List D):o2 .from (.list xs) (.int 1)= .ok (.list xs.tail):=by
 show R.ok (PyData.list (cutD xs (some ((1:Nat):Int)) none))=_
 rw[b5l,List.drop_one]
@[simp] theorem dG1 (xs ys:List D):o2 .zip (.tuple xs) (.tuple ys)= .ok (.list (ah2 xs ys)):=rfl
@[simp] theorem dG2 (xs ys:List D):o2 .zip (.list xs) (.list ys)= .ok (.list (ah2 xs ys)):=rfl
@[simp] theorem dG4 (xs:List D):o1 .enm (.tuple xs)= .ok (.list (am6 xs)):=rfl
@[simp] theorem dG5 (xs:List D):o1 .enm (.list xs)= .ok (.list (am6 xs)):=rfl
@[simp] theorem dG7 (ws:List Str):isTup (ct ws)=true:=rfl
@[simp] theorem dG8 (ws:List Str):o1 .len (ct ws)= .ok (.int ws.length):=by simp[ct]
def Wd (w:Str):Prop:=aN2 [.str w]= .ok (.bool true)∧0<w.cps.size
def ltS (a b:Str):Prop:=a.cps.toList<b.cps.toList
structure WC (ws:List Str):Prop where
 wd: ∀w∈ws,Wd w
 ri:ws.Pairwise ltS
def hd (w:Str):Str:=⟨#[w.cps.getD 0 0]⟩
def ne (w:Str):Prop:=0<w.cps.size
def hw (a b:List Str):Bool:=a.any fun w=>decide (w∈b)
def hn (a b:List Str):Bool:=a.any fun w=>decide (hd w∈b.map hd)
def dh (c:Str)(a b:List Str):Bool:=if c="same" then hw a b else if c="near" then hn a b else if(a.isEmpty||b.isEmpty)=true then false else if c="unlike" then !hw a b else(decide (c="both")|| !hn a b)
end Lw
namespace Lw
open PySem PySem.Spec L2 Fz
abbrev c4f:List Str:=["least","greatest","agreed"]
@[simp] theorem dG9 (w:Str) (ws:List Str):o2 .nmem (.str w) (ct ws)= .ok (.bool (!decide (w∈ws))):=by
 rw[ct,cE4 (aW2 w) rfl (by simp),a8f]
def nth {α:Type}(xs:List α)(i:Nat)(d:α):α:=xs.getD i d
theorem c4j {α:Type}{xs:List α}{i:Nat}{d:α}(h:i<xs.length):nth xs i d=xs[i]:=by simp[nth,List.getD,h]
theorem c4l {α:Type}{xs:List α}{i:Nat}{d:α}(h:i<xs.length):nth xs i d∈xs:=by rw[c4j h];exact List.getElem_mem h
theorem c4m {α:Type}{xs:List α}{i:Nat}{d:α}(h:xs.length≤i):nth xs i d=d:=by simp[nth,List.getD,List.getElem?_eq_none h]
structure WE (p:Pl)(e:En):Prop where
 len:e.length=p.kinds.length
 wc: ∀c∈e,WC c
 si: ∀i,nth p.kinds i ""∈c4f→(nth e i []).length≤1
end Lw
namespace Lw
open PySem PySem.Spec L2 Fz
theorem Wd.ne {w:Str}(h:Wd w):ne w:=h.2
theorem WC.ne {ws:List Str}(h:WC ws): ∀w∈ws,ne w:=fun w hw=>(h.wd w hw).2
theorem c4o:WC []:=⟨fun _ h=>(by cases h),List.Pairwise.nil⟩
theorem WE.get {p:Pl}{e:En}(h:WE p e)(i:Nat):WC (nth e i []):=by
 by_cases hi:i<e.length
 ·exact h.wc _ (c4l hi)
 ·rw[c4m (Nat.le_of_not_lt hi)];exact c4o
def ht (a b:En)(t:Tst):Bool:=dh t.2 (nth a t.1 []) (nth b t.1 [])
@[simp] theorem dH0 (a:Option Sv) (τ:Sd) (i:Nat):ownAt (a::τ) (i+1)=ownAt τ i:=by simp[ownAt]
@[simp] theorem dH1 (xs:List D) (τ:Sd):ownAt (some (.own xs)::τ) 0= .ok xs:=rfl
@[simp] theorem dH5 (xs:List D) (τ:Sd):av6 (some (.own xs)::τ) 0=some (.val (.list xs))::τ:=rfl
@[simp] theorem dH6 (a:Option Sv) (τ:Sd) (i:Nat):av6 (a::τ) (i+1)=a::av6 τ i:=by
 unfold av6
 simp only[List.getElem?_cons_succ]
 cases h:τ[i]? with
 |none=>rfl
 |some o=>cases o with
  |none=>rfl
  |some v=>cases v<;>rfl
end Lw
namespace Lw
open PySem PySem.Spec L2 Fz
@[simp] theorem b5m (i j:Int) (h:0<j∧j<2^64):o2 .fdiv (.int i) (.int j)= .ok (.int (i/j)):=if_pos h
@[simp] theorem a1h (i j:Int) (h:0<j):o2 .mod (.int i) (.int j)= .ok (.int (i%j)):=if_pos h
theorem bu7 (i j:Int)(h:j.natAbs<2^64):o2 .mul (.int i) (.int j)= .ok (.int (i*j)):=if_pos (.inr h)
theorem c4p (i j:Int)(h:i.natAbs<2^64):o2 .mul (.int i) (.int j)= .ok (.int (i*j)):=if_pos (.inl h)
theorem b5p (c:Sd→R Bool)(f:Sd→SR)(s k m ce dr:Option Sv)
  (hc: ∀r g:Int,c [s,k,m,ce,dr,some (.val (.int r)),some (.val (.int g))]= .ok (decide (0<r)&&decide (0<g)))
  (hf: ∀r g:Int,f [s,k,m,ce,dr,some (.val (.int r)),some (.val (.int g))]= .nx [s,k,m,ce,dr,some (.val (.int (r/840))),some (.val (.int (g-1)))]):
  ∀(n:Nat) (r g:Int),g.toNat<n→ ∃r' g':Int,aw1 c f n [s,k,m,ce,dr,some (.val (.int r)),some (.val (.int g))]= .nx [s,k,m,ce,dr,some (.val (.int r')),some (.val (.int g'))]
 |0,_,_,h=>by omega
 |n+1,r,g,h=>by
  unfold aw1
  rw[hc,R.aF7]
  by_cases hb:(decide (0<r)&&decide (0<g))=true
  ·rw[if_pos hb,hf,SR.aK8]
   have:0<g:=by simp at hb;exact hb.2
   exact b5p c f s k m ce dr hc hf n (r/840) (g-1) (by omega)
  ·rw[if_neg hb]
   exact⟨r,g,rfl⟩
theorem c4q (ns:List Int)(k:Int)(hk:0≤k)(r:Sd):
  ∃ce:Int,ev aW5 (.ite (.b .ne (.var 0) (.lst [])) (.b .ix (.var 0) (.b .mod (.u .int (.var 1)) (.u .len (.var 0)))) (.cst (.int 0))) (some (.val (.list (ns.map .int)))::some (.val (.int k))::r)= .ok (.int ce):=by
 cases hn:ns with
 |nil=>exact⟨0,by simp[cE6 (xs:=[]) rfl]⟩
 |cons n ns'=>
  rw[←hn]
  have hl:0<ns.length:=by rw[hn];simp
  have h0:0≤k%(ns.length:Int):=Int.emod_nonneg _ (by omega)
  have h1:k%(ns.length:Int)<ns.length:=Int.emod_lt_of_pos _ (by omega)
  have hj:(k%(ns.length:Int)).toNat<ns.length:=by omega
  refine⟨ns[(k%(ns.length:Int)).toNat],?_⟩
  have e1:(ns.map PyData.int).isEmpty=false:=by rw[hn];rfl
  have e2:o2 .ix (.list (ns.map .int)) (.int (k%(ns.length:Int)))= .ok (.int ns[(k%(ns.length:Int)).toNat]):=by
   show ofO (L2.atI (ns.map PyData.int) (k%(ns.length:Int)))=_
   have e:=atI_nat (xs:=ns.map PyData.int) (j:=(k%(ns.length:Int)).toNat) (v:= .int ns[(k%(ns.length:Int)).toNat]) (by simp[hj])
   rw[Int.toNat_of_nonneg h0]at e
   rw[e];rfl
  simp[e1,a1h k ns.length (by omega),e2]
theorem b5q (ns:List Int)(hl:ns.length≤63)(k m:Int)(hk:0≤k)(hk2:k<100000)(hm:0<m): ∃c:Int,0≤c∧c<m∧ax5 [.list (ns.map .int),.int k,.int m]= .ok (.int c):=by
 obtain⟨ce,hce⟩:=c4q ns k hk [some (.val (.int m)),none,none,none,none]
 have hpow:o2 .pow (.int 10) (.int 18)= .ok (.int 1000000000000000000):=rfl
 generalize hL:(if(1:Int)>((ns.map PyData.int).length:Int)then(1:Int)else((ns.map PyData.int).length:Int))=L
 have hL0:0<L∧L<2^64:=by
  rw[←hL];simp only[List.length_map]
  split<;>omega
 have hs:ad8 7 [.list (ns.map .int),.int k,.int m]=[some (.val (.list (ns.map .int))),some (.val (.int k)),some (.val (.int m)),none,none,none,none]:=rfl
 have hmx:o2 .max2 (.int ((ns.map PyData.int).length:Int)) (.int 1)= .ok (.int L):=by rw[cD1,hL]
 have hg:k/L<1000000:=by
  have:=Int.ediv_le_self L hk
  omega
 obtain⟨r',g',hw⟩:=b5p (fun τ=>(ev aW5 (.and [.b .gt (.var 5) (.cst (.int 0)),.b .gt (.var 6) (.cst (.int 0))]) τ).bind asB) (fun τ=>xs aW5 Fu [
  .par [(5,false,.b .fdiv (.var 5) (.cst (.int 840))),(6,false,.b .sub (.var 6) (.cst (.int 1)))]] τ) (some (.val (.list (ns.map .int)))) (some (.val (.int k))) (some (.val (.int m))) (some (.val (.int ce))) none
  (fun r g=>by by_cases h1:0<r<;>by_cases h2:0<g<;>simp[h1,h2]) (fun r g=>by simp) Fu (ce/1000000000000000000) (k/L) (by unfold Fu;omega)
 suffices hx: ∃x:Int,ax5 [.list (ns.map .int),.int k,.int m]= .ok (.int (x%m))by
  obtain⟨x,hx⟩:=hx
  exact⟨x%m,Int.emod_nonneg _ (by omega),Int.emod_lt_of_pos _ hm,hx⟩
 rw[ax5,cB8 (k:=3) rfl,hs,a8R,bX6,bX9,hce]
 simp only[R.aF7,bY1,SR.aK8,bX6,cA3,cz5,cz4,a75,bX3,ev_var,a73,List.map,List.set,a8a,a79,R.ai6,hpow,cC3,hmx,b5m _ _ hL0,b5m _ 1000000000000000000 (by decide),cB3,cA8]
 rw[cA7,hw]
 simp only[SR.aK8,cA5,a75,ev_var,a73,a8a,a79,R.ai6,cC9,cA0,R.aF7]
 by_cases hr:0<r'
 ·refine⟨r'%840,?_⟩
  simp[hr,a1h _ m hm]
 ·simp only[hr,decide_false,Bool.false_eq_true,if_false,cA2,SR.aK8,bX9,cA4,a75,bX3,ev_var,a73,a8a,a79,R.ai6,bu7 _ 31 (by decide),bu7 _ 40692 (by decide),cC6,c4p 6151 _ (by decide),cC4,a1h _ 2147483399 (by decide),a1h _ 2147483629 (by decide),R.aF7,bY1,List.set]
  generalize hd:((ce*31+6151*(k+1))*40692)%2147483399=dr
  have hdr:dr.natAbs<2^64:=by
   have h1:0≤dr:=by rw[←hd];exact Int.emod_nonneg _ (by decide)
   have h2:dr<2147483399:=by rw[←hd];exact Int.emod_lt_of_pos _ (by decide)
   omega
  refine⟨(dr*dr+dr/31)%2147483629,?_⟩
  simp[bu7 dr dr hdr,a1h _ m hm]
def pick (ns:List Int)(k m:Int):Nat:=match ax5 [.list (ns.map .int),.int k,.int m]with
 | .ok (.int c)=>c.toNat
 |_=>0
theorem b5r {ns:List Int}(hl:ns.length≤63)(k m:Int)(hk:0≤k)(hk2:k<100000)(hm:0<m):ax5 [.list (ns.map .int),.int k,.int m]= .ok (.int (pick ns k m)):=by
 obtain⟨c,h0,h1,e⟩:=b5q ns hl k m hk hk2 hm
 unfold pick
 rw[e]
 simp only[Int.toNat_of_nonneg h0]
theorem b5s {ns:List Int}(hl:ns.length≤63)(k m:Int)(hk:0≤k)(hk2:k<100000)(hm:0<m):pick ns k m<m.toNat:=by
 obtain⟨c,h0,h1,e⟩:=b5q ns hl k m hk hk2 hm
 unfold pick
 rw[e]
 simp only;omega
end Lw
namespace Lw
open PySem PySem.Spec L2 Fz
@[simp] theorem dH8 (τ:Sd) (i:Nat) (is:List (Nat×Bool)) (xs:List D) (ds:List D):ah3 τ ((i,true)::is) (.list xs::ds)=ah3 (τ.set i (some (.own xs))) is ds:=rfl
abbrev w4:List Str:=["a","ab","b","c"]
theorem WC.sub {a b:List Str}(h:WC b)(s:a.Sublist b):WC a:=⟨fun w hw=>h.wd w (s.subset hw),h.ri.sublist s⟩
theorem WC.one {w:Str}(h:Wd w):WC [w]:=⟨fun v hv=>by simp at hv;subst hv;exact h,List.pairwise_singleton _ _⟩
end Lw
namespace Lw
open PySem PySem.Spec L2 Fz
section
variable {τ:Sd} {i j:Nat} {v:Option Sv} {d:D} {xs:List D}
@[simp] theorem dH9 (h:i≠j):look (List.set τ i v) j=look τ j:=by simp[look,List.getElem?_set_ne h]
@[simp] theorem dI0 (h:i<τ.length):look (List.set τ i (some (.val d))) i= .ok d:=by simp[look,h]
@[simp] theorem dI1 (h:i≠j):peek (List.set τ i v) j=peek τ j:=by simp[peek,List.getElem?_set_ne h]
@[simp] theorem dI4 (h:i<τ.length):peek (List.set τ i (some (.val d))) i= .ok d:=by simp[peek,h]
@[simp] theorem dI6 (h:i<τ.length):peek (List.set τ i (some (.own xs))) i= .ok (.list xs):=by simp[peek,h]
@[simp] theorem dI8 (h:i≠j):ownAt (List.set τ i v) j=ownAt τ j:=by simp[ownAt,List.getElem?_set_ne h]
@[simp] theorem dI9 (h:i<τ.length):ownAt (List.set τ i (some (.own xs))) i= .ok xs:=by simp[ownAt,h]
@[simp] theorem dJ0 (i:Nat) (is:List Nat) (d:D) (ds:List D):ak7 τ (i::is) (d::ds)=ak7 (List.set τ i (some (.val d))) is ds:=rfl
@[simp] theorem dJ1:ak7 τ [] []=τ:=rfl
@[simp] theorem dJ2 (is:List Nat) (ds:List D):ae8 (.tup is) (.tuple ds) τ=if ds.length=is.length then .ok (ak7 τ is ds)else .no:=rfl
end
end Lw
namespace Lw
open PySem PySem.Spec L2 Fz
def aD7:D:= .tuple [.tuple [.str "all",.str "agreed"],.tuple [.tuple [.tuple [.int 0,.str "same"]]],.tuple [.tuple [.int 1,.str "unlike"]]]
def aI3:List D:=[.none,.tuple [],.int 5,.str "plan",.tuple [aD7]]
def aI6:D:= .tuple [.tuple [.str "a"],.tuple []]
def aI7:List D:=[.none,.tuple [.tuple [],.tuple [],.tuple []],.tuple [.tuple [.str "b",.str "a"],.tuple []],.list [.tuple [],.tuple []]]
def aQ3:D:= .tuple [aI6,.tuple [.tuple [.str "b"],.tuple []]]
def aQ6:D:= .tuple [.tuple [.int 0,.str "word"]]
def aI8 (b o:D):List D:=[aD7,b,aI6,o,aQ3,aQ6]
theorem c4t:(aI3.all fun b=>aI7.all fun o=>as4 (a4k (aI8 b o)).calm)=true:=by decide+kernel
theorem c4u:(aI3.all fun b=>aI7.all fun o=>as4 (a4J (aI8 b o)).calm)=true:=by decide+kernel
theorem c4v:(aI3.all fun b=>aI7.all fun o=>as4 (a4V (aI8 b o)).calm)=true:=by decide+kernel
theorem due4:(aI3.all fun b=>aI7.all fun o=>as4 (a5l (aI8 b o)).calm)=true:=by decide+kernel
theorem due {b o:D}(hb:b∈aI3)(ho:o∈aI7):((aI2.map (·.2)).all fun m=>as4 (m (aI8 b o)).calm)=true:=by
 have h1:=List.all_eq_true.mp (List.all_eq_true.mp c4t b hb) o ho
 have h2:=List.all_eq_true.mp (List.all_eq_true.mp c4u b hb) o ho
 have h3:=List.all_eq_true.mp (List.all_eq_true.mp c4v b hb) o ho
 have h4:=List.all_eq_true.mp (List.all_eq_true.mp due4 b hb) o ho
 simp only[aI2,List.map_cons,List.map_nil,List.all_cons,List.all_nil,h1,h2,h3,h4,Bool.and_true]
theorem b5u (n:Nat)(xs:List D)(h:n<xs.length): ∃x∈xs,o2 .ix (.tuple xs) (.int n)= .ok x:=by
 refine⟨xs[n],List.getElem_mem h,?_⟩
 show ofO (L2.atI xs (n:Int))=_
 rw[atI_nat (xs:=xs) (j:=n) (v:=xs[n]) (by simp[h])]
 rfl
theorem c4w: ∀ns:List Int,ns.length≤63→a5r ns= .rt (.bool true):=by
 intro ns hl
 obtain⟨b,hb,eb⟩:=b5u (pick ns 0 5) aI3 (b5s hl 0 5 (by decide) (by decide) (by decide))
 obtain⟨o,ho,eo⟩:=b5u (pick ns 1 4) aI7 (b5s hl 1 4 (by decide) (by decide) (by decide))
 have p0:=b5r hl 0 5 (by decide) (by decide) (by decide)
 have p1:=b5r hl 1 4 (by decide) (by decide) (by decide)
 have hd:=due hb ho
 have hx:xs aP5 Fu a5m (ad8 aP4.length [.list (ns.map .int)])= .nx [some (.val (.list (ns.map .int))),some (.val aD7),some (.val b),none,some (.val aI6),some (.val o),some (.val aQ3),some (.val aQ6)]:=by
  have hs:ad8 aP4.length [.list (ns.map .int)]=[some (.val (.list (ns.map .int))),none,none,none,none,none,none,none]:=rfl
  rw[hs]
  simp only[aI3,aD7]at eb
  simp only[aI7]at eo
  simp[a5m,p0,p1,eb,eo,aD7,aI6,aQ3,aQ6]
 unfold a5r a3w
 rw[hx,SR.aK8]
 have hk:aA9 aP5 (aI2.map (·.2)) a1b 3 [some (.val (.list (ns.map .int))),some (.val aD7),some (.val b),none,some (.val aI6),some (.val o),some (.val aQ3),some (.val aQ6)]= .nx [some (.val (.list (ns.map .int))),some (.val aD7),some (.val b),none,some (.val aI6),some (.val o),some (.val aQ3),some (.val aQ6)]:=by
  have e:evs aP5 a1b [some (.val (.list (ns.map .int))),some (.val aD7),some (.val b),none,some (.val aI6),some (.val o),some (.val aQ3),some (.val aQ6)]= .ok (aI8 b o):=by
   simp[a1b,aI8]
  unfold aA9
  simp only[List.set_cons_succ,List.set_cons_zero,e]
  rw[if_pos]
  simpa[R.bind]using hd
 rw[hk,SR.aK8]
end Lw
theorem PySem.Challenge.cw_sameentries_k40_errors_holds : PySem.Challenge.rw_sameentries_k40_errors.Holds :=
 Lw.holds_of Lw.c4w
