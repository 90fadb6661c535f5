/- Texts of this claim. -/
import Derived.Test.YtolfgnbldofcjaaT2
import Derived.Test.YtolfgnbldofcjaaProg
import Derived.KernelRfl
set_option linter.unusedVariables false
set_option linter.unusedSimpArgs false
set_option linter.unusedSectionVars false
set_option maxRecDepth 100000
set_option maxHeartbeats 0
section
namespace Go.Am
structure SS where
 s:AS
 K:List (List CK)
def y2z (s:AS) (d:Nat) (v:AV):AS:=⟨x21 s.env d v,s.heap,s.nt⟩
def x5v (A:Alg) (β:Type) (all:List Oper) (s:AS) (g:Option (Nat×Bool)) (k:Bool→AS→A.Ω β):A.Ω β:=
 match g with
 |none=>k true s
 |some (j,want)=>match z2o all j with
  |some o=>match o.dst with
   |some d=>match z2p s.env d with
    | .d (.bool t)=>A.ask β t (k (true==want) (y2z s d (.d (.bool true)))) (k (false==want) (y2z s d (.d (.bool false))))
    | .tuple []=>k false s
    |_=>A.no β 21
   |none=>A.no β 22
  |none=>A.no β 23
def v0c (A:Alg) (β:Type) (s:AS) (x:Operand) (k:Bool→AS→A.Ω β):A.Ω β:=
 match x with
 | .tmp d=>match z2p s.env d with
  | .d (.bool t)=>A.ask β t (k true (y2z s d (.d (.bool true)))) (k false (y2z s d (.d (.bool false))))
  |_=>A.no β 24
 |x=>match z09 s.env x with
  | .d (.bool t)=>A.ask β t (k true s) (k false s)
  |_=>A.no β 25
structure Orc (A:Alg) where
 call:(β:Type)→Nat→List Bool→Nat→Nat→FuncId→List AV→SS→Option ((AV→SS→A.Ω β)→A.Ω β)
 pure:(β:Type)→Nat→List Bool→Nat→FuncId→List AV→SS→Option ((AV→A.Ω β)→A.Ω β)
 loop:(β:Type)→Nat→Nat→List Bool→SS→Option ((AX→SS→A.Ω β)→A.Ω β)
 join:(β:Type)→Nat→Nat→List Bool→((γ:Type)→(AX→SS→A.Ω γ)→A.Ω γ)→(AX→SS→A.Ω β)→A.Ω β
 view:(β:Type)→Nat→Nat→List Bool→SS→(SS→A.Ω β)→A.Ω β
abbrev x2y (A:Alg):=(β:Type)→Nat→Nat→List Bool→Code→SS→(AX→SS→A.Ω β)→A.Ω β
def x8f (A:Alg) (E:Env) (rec:x2y A) (β:Type) (g:FuncId) (args:List AV) (h:List AO) (K:List (List CK)) (k:AV→List AO→List (List CK)→A.Ω β):A.Ω β:=
 match E.B g with
 |some i=>bif Nat.ble args.length i.nt then rec β h.length g [] i.body ⟨⟨w4s 0 args,h,i.nt⟩,K⟩ fun e s=>match e with
  | .exit _=>A.no β 31
  |_=>match v1l E.T s.s i.res with
   |some r=>k r s.s.heap s.K
   |none=>A.no β 32
  else A.no β 33
 |none=>A.no β 34
def y9n (A:Alg) (E:Env) (O:Orc A) (rec:x2y A) (β:Type) (g0:Nat) (pos:List Bool) (ix n:Nat) (g:FuncId) (args:List AV) (ss:SS) (k:AV→SS→A.Ω β):A.Ω β:=
 match O.call β g0 pos ix n g args ss with
 |some t=>t k
 |none=>x8f A E rec β g args ss.s.heap ss.K fun r h K=>k r ⟨⟨ss.s.env,h,ss.s.nt⟩,K⟩
def w6l (new:Nat):List (Nat×AO)→Bool
 |[]=>false
 |(i,_)::l=>Nat.beq i new||w6l new l
def updK (E:Env) (K:List (List CK)) (new:Nat) (u:List (Nat×AO)) (op:Op):List (List CK):=
 match newK E op with
 |some ck=>bif w6l new u then v65 K new ck else K
 |none=>K
def x0y (A:Alg) (β:Type) (p:Prim) (kk:IntKind) (i:Int) (d:Nat) (s:AS) (k:AS→A.Ω β):Nat→Nat→A.Ω β
 |0,_=>A.no β 42
 |1,j=>A.need β (p.cmp .eql i (Int.ofNat j)) (k (y2z s d (.d (.int kk (Int.ofNat j)))))
 |m+2,j=>A.ask β (p.cmp .eql i (Int.ofNat j)) (k (y2z s d (.d (.int kk (Int.ofNat j))))) (x0y A β p kk i d s k (m+1) (j+1))
def u2c (E:Env):Op→Option (Nat×Nat)
 | .indexAddr t _ (.tmp d)=>match E.T t with
  |some ti=>match ti.desc with
   | .arr n _ _=>bif Nat.ble n 16 then some (d,n) else none
   |_=>none
  |none=>none
 | .index t _ (.tmp d)=>match E.T t with
  |some ti=>match ti.desc with
   | .arr n _ _=>bif Nat.ble n 16 then some (d,n) else none
   |_=>none
  |none=>none
 |_=>none
def ixK (A:Alg) (β:Type) (p:Prim) (E:Env) (s:AS) (op:Op) (k:AS→A.Ω β):A.Ω β:=
 match u2c E op with
 |some (d,n)=>match z2p s.env d with
  | .d (.int kk i)=>x0y A β p kk i d s k n 0
  |_=>A.no β 43
 |none=>k s
def v8r (E:Env):List Oper→Bool
 |[]=>false
 |o::l=>match u2c E o.op with
  |some _=>true
  |none=>v8r E l
def y6s (A:Alg) (β:Type) (p:Prim) (E:Env) (new:Nat) (ss:SS) (o:Oper) (k:SS→A.Ω β):A.Ω β:=
 ixK A β p E ss.s o.op fun s=>w9r A β p E ss.K s.env s.heap o.op fun q r ra=>match z1v p E.T s.env s.heap new q r ra o.op with
  |some res=>A.need β res.c (k ⟨z57 s o.dst res.v res.u,updK E ss.K new res.u o.op⟩)
  |none=>A.no β 41
def opK (A:Alg) (p:Prim) (E:Env) (O:Orc A) (rec:x2y A) (β:Type) (n g0:Nat) (pos:List Bool) (ix:Nat) (all:List Oper) (ss0:SS) (o:Oper) (k:SS→A.Ω β):A.Ω β:=
 bif z5x ss0.s.nt o.dst then
  x5v A β all ss0.s o.guard fun b s=>match b with
  |false=>k ⟨z57 s o.dst (.tuple []) [],ss0.K⟩
  |true=>match o.op with
   | .call ⟨.value f,args,_⟩=>match z09 s.env f with
    | .clo (.func g) first captured=>y9n A E O rec β g0 pos ix n g (first++z11 s.env args.toList++captured) ⟨s,ss0.K⟩ fun r s1=>k ⟨⟨y4u s1.s.env o.dst r,s1.s.heap,s1.s.nt⟩,s1.K⟩
    | .yld id=>match z0s s.heap id with
     | .loop .ready pd g pos nt env=>match E.A g pos with
      |some (.rangeFunc _ ps asg body)=>bif (ps.toList.all fun q=>Nat.blt q nt)&&Nat.beq args.size ps.size then
        rec β s.heap.length g (false::pos) asg ⟨⟨x02 env ps.toList (z11 s.env args.toList),z1t s.heap id .dead,nt⟩,ss0.K⟩ fun e1 s1=>match e1 with
        | .normal=>rec β s.heap.length g (true::pos) body s1 fun e2 s2=>k ⟨⟨y4u s.env o.dst (.d (.bool (isN e2))),z1t s2.s.heap id (.loop (y54 e2) (z3j e2) g pos nt env),s.nt⟩,s2.K⟩
        |_=>A.no β 51
       else A.no β 52
      |_=>A.no β 53
     |_=>A.no β 54
    |_=>A.no β 55
   |_=>y6s A β p E s.heap.length ⟨s,ss0.K⟩ o k
 else A.no β 56
def w8a (A:Alg) (p:Prim) (E:Env) (O:Orc A) (rec:x2y A) (β:Type) (n g0:Nat) (pos:List Bool) (all:List Oper):Nat→List Oper→SS→(SS→A.Ω β)→A.Ω β
 |_,[],s,k=>k s
 |i,o::l,s,k=>opK A p E O rec β n g0 pos i all s o fun s'=>w8a A p E O rec β n g0 pos all (i+1) l s' k
def x9y (ops:List Oper) (base i:Nat) (l:List Nat):Bool:=l.all fun id=>Nat.blt id base||(Nat.blt (id - base) i&&(z8w (y37 ops []) i).testBit (id - base))
def v7n (A:Alg) (p:Prim) (E:Env) (O:Orc A) (rec:x2y A) (β:Type) (g0:Nat) (pos:List Bool) (all:List Oper) (base i:Nat) (ss0:SS) (o:Oper) (k:SS→A.Ω β):A.Ω β:=
 bif z5x ss0.s.nt o.dst then
  x5v A β all ss0.s o.guard fun b s=>match b with
  |false=>k ⟨z57 s o.dst (.tuple []) [],ss0.K⟩
  |true=>bif x9y all base i (z78 s.env o.op) then match o.op with
   | .call ⟨.value f,args,_⟩=>match z09 s.env f with
    | .clo (.func g) first captured=>match O.pure β g0 pos i g (first++z11 s.env args.toList++captured) ⟨s,ss0.K⟩ with
     |some t=>bif y0w (first++captured) then t fun x=>k ⟨z57 s o.dst x [],ss0.K⟩ else A.no β 61
     |none=>bif y0w (first++z11 s.env args.toList++captured) then x8f A E rec β g (first++z11 s.env args.toList++captured) [] [] fun r h _=>
       bif z99 (z4p h (fun _=>false) r) then k ⟨z57 s o.dst (z4p h (fun _=>false) r) [],ss0.K⟩ else A.no β 62
      else A.need β (bL p s.heap (first++z11 s.env args.toList++captured)).1 (match O.pure β g0 pos i g (bL p s.heap (first++z11 s.env args.toList++captured)).2 ⟨s,ss0.K⟩ with
       |some t=>bif y0w (bL p s.heap (first++z11 s.env args.toList++captured)).2 then t fun x=>bif y2m x then k ⟨z57 s o.dst x [],ss0.K⟩ else A.no β 63 else A.no β 67
       |none=>x8f A E rec β g (bL p s.heap (first++z11 s.env args.toList++captured)).2 [] [] fun r h _=>
        bif y2m (z4p h (fun _=>false) r) then k ⟨z57 s o.dst (z4p h (fun _=>false) r) [],ss0.K⟩ else A.no β 68)
    |_=>A.no β 64
   |_=>y6s A β p E (base+i) ⟨s,ss0.K⟩ o k
   else A.no β 65
 else A.no β 66
def x7c (A:Alg) (p:Prim) (E:Env) (O:Orc A) (rec:x2y A) (β:Type) (g0:Nat) (pos:List Bool) (all:List Oper) (base:Nat):List (List Nat)→Nat→List Oper→SS→(SS→A.Ω β)→A.Ω β
 |_,_,[],s,k=>k s
 |acc,i,o::l,s,k=>bif x5a all acc i o (z78 s.s.env o.op) then v7n A p E O rec β g0 pos all base i s o fun s'=>x7c A p E O rec β g0 pos all base (acc++[z78 s.s.env o.op]) (i+1) l s' k else A.no β 69
def x31:List Oper→Bool
 |[]=>false
 |o::l=>match o.guard with
  |some _=>true
  |none=>x31 l
def v8y (A:Alg) (β:Type) (p:Prim) (E:Env) (x:x8r) (ss:SS) (k:SS→A.Ω β):A.Ω β:=
 match z2p ss.s.env x.a,z2p ss.s.env x.b,z09 ss.s.env (.const x.c) with
 | .map id, .d kd, .d (.int kc n)=>match z0s ss.s.heap id,E.T x.t with
  | .map es,some ti=>match ti.desc,y0e x.bop with
   | .map _ _ ez, .arith=>x7x A β p E x.t ss.s.heap (.map id) (.d kd) fun q r _=>match z6g q r ez with
    | .int ko o=>bif (ko==kc)&&(Nat.blt x.dL ss.s.nt&&(Nat.blt x.dB ss.s.nt&&(Nat.blt x.dM ss.s.nt&&(Nat.blt x.dX ss.s.nt&&Nat.blt id ss.s.heap.length)))) then
      k ⟨x7s x ss.s id (.int ko o) (.int ko (p.ar x.bop ko o n)) (v63 p es q r kd (.int ko (p.ar x.bop ko o n))),ss.K⟩ else A.no β 74
    |_=>A.no β 75
   |_,_=>A.no β 76
  |_,_=>A.no β 77
 |_,_,_=>A.no β 78
def sym (A:Alg) (p:Prim) (E:Env) (O:Orc A):Nat→x2y A
 |0,β,_,_,_,_,_,_=>A.no β 71
 |f+1,β,n,g,pos,c,ss,k=>match c with
  | .skip=>k .normal ss
  | .label _=>k .normal ss
  | .exit id=>k (.exit id) ss
  | .ret=>k .ret ss
  | .seq a b=>sym A p E O f β n g (false::pos) a ss fun e s'=>match e with
   | .normal=>sym A p E O f β n g (true::pos) b s' k
   |e=>k e s'
  | .cond c a b=>O.join β n g pos (fun γ k=>v0c A γ ss.s c fun x s=>match x with
   |true=>sym A p E O f γ n g (false::pos) a ⟨s,ss.K⟩ k
   |false=>sym A p E O f γ n g (true::pos) b ⟨s,ss.K⟩ k) k
  | .block id c=>O.join β n g pos (fun γ k=>sym A p E O f γ n g (false::pos) c ss fun e s'=>match e with
   | .exit j=>bif Nat.beq j id then k .normal s' else k (.exit j) s'
   |e=>k e s') k
  | .scope c=>sym A p E O f β n g (false::pos) c ss k
  | .loop c=>match O.loop β n g pos ss with
   |some t=>t k
   |none=>sym A p E O f β n g (false::pos) c ss fun e s'=>match e with
    | .normal=>sym A p E O f β n g pos (.loop c) s' k
    |e=>k e s'
  | .region _ ops false=>bif x31 ops.toList||v8r E ops.toList then O.join β n g pos (fun γ k=>O.view γ n g pos ss fun ss=>w8a A p E O (sym A p E O f) γ n g pos ops.toList 0 ops.toList ss fun s'=>k .normal s') k
    else O.view β n g pos ss fun ss=>w8a A p E O (sym A p E O f) β n g pos ops.toList 0 ops.toList ss fun s'=>k .normal s'
  | .region _ ops true=>bif y57 ops.toList&&z8q ops.toList then O.view β n g pos ss fun ss=>match w81 ops.toList with
    |none=>x7c A p E O (sym A p E O f) β g pos ops.toList ss.s.heap.length [] 0 ops.toList ss fun s'=>k .normal s'
    |some (pre,x)=>bif y3z ops.toList then x7c A p E O (sym A p E O f) β g pos ops.toList ss.s.heap.length [] 0 pre ss fun s'=>v8y A β p E x s' fun s''=>k .normal s'' else A.no β 79
   else A.no β 72
  | .rangeFunc fo ps asg body=>match z09 ss.s.env fo with
   | .clo (.func g') first captured=>y9n A E O (sym A p E O f) β g pos 0 (ss.s.heap.length+1) g' (first++[.yld ss.s.heap.length]++captured) ⟨⟨ss.s.env,z1t ss.s.heap ss.s.heap.length (.loop .ready none g pos ss.s.nt ss.s.env),ss.s.nt⟩,ss.K⟩ fun _ sc=>
    match z0s sc.s.heap ss.s.heap.length with
    | .loop st pd _ _ _ _=>match st with
     | .busy=>A.no β 73
     |_=>match z9m sc.s (z1t sc.s.heap ss.s.heap.length .dead) pd with
      |some (e,s')=>k e ⟨s',sc.K⟩
      |none=>A.no β 74
    |_=>A.no β 75
   |_=>A.no β 76
  |_=>A.no β 77
structure y5s (P:Program) (E:Env):Prop where
 ti:y2v P E.T
 fn:∀ g i,E.B g=some i→∃ fn,P.funcs[g]?=some fn∧fn.body=some i.body∧fn.ntmps=i.nt∧fn.results.toList=i.res∧z3e P g
 code:∀ g pos c,E.A g pos=some c→z4h P g pos=some c
 mixed:P.follows .mixedOrders=true
theorem y33 {E:Env} {β:Type} {t:TypeId} {h:List AO} {m k:AV} {c:Bool→List D→List AV→Option β} {b:β} (hx:x7x opt β std E t h m k c=some b):∃ q r ra,(y06 std E.T t h m k).ok q r ra∧c q r ra=some b:=by
 unfold x7x at hx
 unfold y06
 split at hx
 ·rename_i ti hti
  simp only [hti]
  split at hx
  ·rename_i ks ka ez kd hdesc
   split at hx
   ·obtain ⟨hc,hx⟩:=z6i hx
    refine ⟨false,[],[], .inl ⟨?_,rfl⟩,hx⟩
    simp only [z3f,hdesc,hc,cond_true]
   ·rename_i id
    split at hx
    ·rename_i es hob
     obtain ⟨hc,hx⟩:=z6i hx
     simp only [std,Bool.and_eq_true] at hc
     obtain ⟨⟨hk1,hk2⟩,hc⟩:=hc
     have hfm:z3f std ti h (.map id) (.d kd)=x1z ks ka kd es 0:=by
      simp only [z3f,hdesc,hob,hk1,hk2,Bool.and_self,cond_true,w4n]
     rcases z95 hx with ⟨hh,hx⟩|⟨hh,hx⟩
     ·refine ⟨_,_,_, .inr ?_,hx⟩
      simp only [std,w8n] at hh
      cases hq:x1z ks ka kd es 0 with
      |none=>rw [hq] at hh; simp at hh
      |some r=>
       cases r with
       |none=>rw [hq] at hh; simp at hh
       |some q=>
        obtain ⟨i,v⟩:=q
        rw [hq] at hc
        simp only [Bool.and_eq_true,beq_iff_eq] at hc
        obtain ⟨ha,hc⟩:=hc
        have hmg:w8n es ks ka kd=some (i,v):=by simp [w8n,hq]
        refine ⟨i,v,mkV (E.CM t).1 (x96 std es ks ka kd 0 (E.CM t).2),by rw [hfm,hq],?_,rfl,?_⟩
        ·obtain ⟨h1,h2⟩:=y02 _ _ hc
         obtain ⟨m1,m2⟩:=x5j std es ks ka kd (E.CM t).2 0
         have hrow:w2j (z1b v) (x96 std es ks ka kd 0 (E.CM t).2):=by
          refine ⟨by rw [m1,h1],fun j y hy=>?_⟩
          obtain ⟨c,hcc,rfl⟩:=m2 j y hy
          obtain ⟨d,hd,hcd⟩:=h2 j c hcc
          refine ⟨d,hd,x2k hcd ?_⟩
          rw [Nat.zero_add]
          have e:x3w es ks ka kd j=d:=by simp [x3w,hmg,hd]
          cases c<;>simp only [v72,v7l,std,e]
         cases v with
         |agg l=>
          have:(E.CM t).1=true:=by rw [←ha]; rfl
          rw [this]
          exact .inr ⟨l,_,rfl,rfl,hrow⟩
         |_=>
          have:(E.CM t).1=false:=by rw [←ha]; rfl
          rw [this]
          simp only [z1b] at hrow
          obtain ⟨r1,r2⟩:=hrow
          match hm:x96 std es ks ka kd 0 (E.CM t).2,r1 with
          |[y],_=>
           obtain ⟨x,hx,hle⟩:=r2 0 y (by rw [hm]; rfl)
           simp at hx; subst hx
           exact .inl hle
        ·simp [std,hmg]
     ·refine ⟨_,_,_, .inl ?_,hx⟩
      simp only [std,w8n] at hh
      cases hq:x1z ks ka kd es 0 with
      |none=>rw [hq] at hc; simp at hc
      |some r=>
       cases r with
       |none=>exact ⟨by rw [hfm,hq],rfl⟩
       |some q=>rw [hq] at hh; simp at hh
    ·cases hx
   ·cases hx
  ·cases hx
 ·cases hx
theorem w4o {β:Type} {ck:List CK} {w:w5u} {c:Bool→List D→List AV→Option β} {b:β} (hx:w9q opt β std ck w c=some b):∃ q r ra,w.ok q r ra∧c q r ra=some b:=by
 unfold w9q at hx
 split at hx
 ·exact ⟨_,_,_,trivial,hx⟩
 ·split at hx
  ·obtain ⟨hc,hx⟩:=z6i hx
   exact ⟨_,_,_,w3i hc,hx⟩
  ·split at hx
   ·rename_i r hr
    rw [z19] at hr
    exact ⟨_,_,_,⟨r,hr, .refl _⟩,hx⟩
   ·cases hx
 ·split at hx
  ·rename_i r hr
   rw [z19] at hr
   exact ⟨_,_,_,hr,hx⟩
  ·cases hx
 ·rcases z95 hx with ⟨hb,hx⟩|⟨hb,hx⟩
  ·exact ⟨_,_,_,hb,hx⟩
  ·exact ⟨_,_,_,hb,hx⟩
 ·cases hx
theorem w4p {E:Env} {β:Type} {K:List (List CK)} {env:List (Nat×AV)} {h:List AO} {op:Op} {c:Bool→List D→List AV→Option β} {b:β} (hx:w9r opt β std E K env h op c=some b):∃ q r ra,(z2z std E.T env h op).ok q r ra∧c q r ra=some b:=by
 unfold w9r at hx
 split at hx
 ·exact y33 hx
 ·exact y33 hx
 ·split at hx
  ·rename_i t _ m k h1 h2
   simp only [z2z,h1,h2]
   exact y33 hx
  ·cases hx
 ·exact w4o hx
theorem x9g:∀ (env:List (Nat×AV)) (d:Nat) (v:AV),z2p env d=v→v≠ .bot→x21 env d v=env:=by
 intro env
 induction env with
 |nil=>intro d v h hv; simp [z2p] at h; exact absurd h.symm hv
 |cons x env ih=>
  intro d v h hv
  obtain ⟨k,w⟩:=x
  simp only [z2p] at h
  simp only [x21]
  cases hb:Nat.beq k d with
  |true=>rw [hb] at h; simp at h; subst h; rfl
  |false=>rw [hb] at h; simp at h; simp [ih d v h hv]
theorem z6b {s:AS} {d:Nat} {v:AV} (h:z2p s.env d=v) (hv:v≠ .bot):y2z s d v=s:=by
 unfold y2z; rw [x9g _ _ _ h hv]
theorem x1u {β:Type} {all:List Oper} {s:AS} {g:Option (Nat×Bool)} {k:Bool→AS→Option β} {b:β} (h:x5v opt β all s g k=some b):∃ x,z6m all s.env g=some x∧k x s=some b:=by
 unfold x5v at h
 split at h
 ·exact ⟨true,rfl,h⟩
 ·rename_i j want
  simp only [z6m]
  cases ho:z2o all j with
  |none=>rw [ho] at h; cases h
  |some o=>
   rw [ho] at h
   simp only at h⊢
   cases hd:o.dst with
   |none=>rw [hd] at h; cases h
   |some d=>
    rw [hd] at h
    simp only at h⊢
    cases ht:z2p s.env d with
    |d y=>
     rw [ht] at h
     cases y with
     |bool t=>
      rcases z95 h with ⟨e,h⟩|⟨e,h⟩
      ·subst e; rw [z6b ht (by simp)] at h; exact ⟨_,rfl,h⟩
      ·subst e; rw [z6b ht (by simp)] at h; exact ⟨_,rfl,h⟩
     |_=>cases h
    |tuple l=>
     rw [ht] at h
     cases l with
     |nil=>exact ⟨_,rfl,h⟩
     |cons _ _=>cases h
    |_=>rw [ht] at h; cases h
theorem x0x {β:Type} {kk:IntKind} {i:Int} {d:Nat} {s:AS} {k:AS→Option β} {b:β} (he:z2p s.env d= .d (.int kk i)):∀ {n j:Nat},x0y opt β std kk i d s k n j=some b→k s=some b
 |0,_,h=>by cases h
 |1,j,h=>by
  simp only [x0y] at h
  obtain ⟨hc,h⟩:=z6i h
  have:i=Int.ofNat j:=by simpa [std,z6a] using hc
  rw [←this,z6b he (by simp)] at h; exact h
 |m+2,j,h=>by
  simp only [x0y] at h
  rcases z95 h with ⟨hc,h⟩|⟨_,h⟩
  ·have:i=Int.ofNat j:=by simpa [std,z6a] using hc
   rw [←this,z6b he (by simp)] at h; exact h
  ·exact x0x he h
theorem v3r {β:Type} {E:Env} {s:AS} {op:Op} {k:AS→Option β} {b:β} (h:ixK opt β std E s op k=some b):k s=some b:=by
 unfold ixK at h
 split at h
 ·split at h
  ·rename_i kk i he
   exact x0x he h
  ·cases h
 ·exact h
theorem w5b {β:Type} {s:AS} {c:Operand} {k:Bool→AS→Option β} {b:β} (h:v0c opt β s c k=some b):∃ x,z09 s.env c= .d (.bool x)∧k x s=some b:=by
 unfold v0c at h
 split at h
 ·rename_i d
  split at h
  ·rename_i t ht
   rcases z95 h with ⟨e,h⟩|⟨e,h⟩<;>subst e<;>rw [z6b ht (by simp)] at h<;>exact ⟨_,ht,h⟩
  ·cases h
 ·split at h
  ·rename_i t ht
   rcases z95 h with ⟨e,h⟩|⟨e,h⟩<;>subst e<;>exact ⟨_,ht,h⟩
  ·cases h
section
variable {P:Program} {E:Env} {O:Orc opt}
def x2z (P:Program) (rec:x2y opt):Prop:=∀ β n g pos c ss k (b:β),z4h P g pos=some c→n≤ss.s.heap.length→rec β n g pos c ss k=some b→∃ e ss',n≤ss'.s.heap.length∧z7c P n c ss.s (fun e' s2=>e'=e∧s2=ss'.s)∧k e ss'=some b
structure y9v (P:Program) (O:Orc opt):Prop where
 call:∀ β g0 pos ix n g args ss t k (b:β),O.call β g0 pos ix n g args ss=some t→t k=some b→n≤ss.s.heap.length→∃ r ss',n≤ss'.s.heap.length∧z3e P g∧z7j P n g args ss.s r ss'.s∧k r ss'=some b
 pure:∀ β g0 pos ix g args ss t k (b:β),O.pure β g0 pos ix g args ss=some t→t k=some b→∃ r,z3e P g∧(∀ h,(∀ x∈args,∀ id∈tid x,z0s h id=z0s ss.s.heap id)→z97 P g args h r h)∧k r=some b
 loop:∀ β n g pos c ss t k (b:β),z4h P g pos=some (.loop c)→n≤ss.s.heap.length→O.loop β n g pos ss=some t→t k=some b→∃ e ss',n≤ss'.s.heap.length∧z7c P n (.loop c) ss.s (fun e' s2=>e'=e∧s2=ss'.s)∧k e ss'=some b
 join:∀ β n g pos body k (b:β) (G:AX→SS→Prop),(∀ γ k (b:γ),body γ k=some b→∃ e ss',G e ss'∧k e ss'=some b)→O.join β n g pos body k=some b→∃ e ss1 ss',G e ss1∧y3q n ss1.s ss'.s∧(n≤ss1.s.heap.length→n≤ss'.s.heap.length)∧k e ss'=some b
 view:∀ β n g pos ss k (b:β),n≤ss.s.heap.length→O.view β n g pos ss k=some b→∃ ss',y3q n ss.s ss'.s∧n≤ss'.s.heap.length∧k ss'=some b
theorem y36 (ht:y5s P E) {rec:x2y opt} (hr:x2z P rec) {β:Type} {g:FuncId} {args:List AV} {h:List AO} {K:List (List CK)} {k:AV→List AO→List (List CK)→Option β} {b:β} (hc:x8f opt E rec β g args h K k=some b):
  ∃ r h' K',z97 P g args h r h'∧h.length≤h'.length∧z3e P g∧k r h' K'=some b:=by
 unfold x8f at hc
 split at hc
 ·rename_i i hi
  cases hb:Nat.ble args.length i.nt with
  |false=>rw [hb] at hc; cases hc
  |true=>
  rw [hb] at hc
  have hle:=Nat.le_of_ble_eq_true hb
  obtain ⟨fn,f1,f2,f3,f4,f5⟩:=ht.fn g i hi
  have hcode:z4h P g []=some i.body:=by simp [z4h,w62,f1,f2]
  obtain ⟨e,ss,l1,l2,hc⟩:=hr β h.length _ _ _ ⟨⟨w4s 0 args,h,i.nt⟩,K⟩ _ _ hcode (Nat.le_refl _) hc
  have fin:∀ r,(e= .normal∨e= .ret)→v1l E.T ss.s i.res=some r→z97 P g args h r ss.s.heap:=by
   intro r he hres
   refine x2u ht.ti f1 f2 f3 hle (l2.mono fun e' s2 hq=>?_)
   obtain ⟨rfl,rfl⟩:=hq
   exact ⟨he,by rw [f4]; exact hres,rfl⟩
  cases e with
  |exit j=>cases hc
  |normal=>
   simp only at hc
   split at hc
   ·rename_i r' hres
    exact ⟨_,_,_,fin _ (.inl rfl) hres,l1,f5,hc⟩
   ·cases hc
  |ret=>
   simp only at hc
   split at hc
   ·rename_i r' hres
    exact ⟨_,_,_,fin _ (.inr rfl) hres,l1,f5,hc⟩
   ·cases hc
 ·cases hc
theorem y7r (ht:y5s P E) (hO:y9v P O) {rec:x2y opt} (hr:x2z P rec) {β:Type} {g0:Nat} {pos:List Bool} {ix n:Nat} {g:FuncId} {args:List AV} {ss:SS} {k:AV→SS→Option β} {b:β} (hn:n≤ss.s.heap.length) (hc:y9n opt E O rec β g0 pos ix n g args ss k=some b):
  ∃ r ss',n≤ss'.s.heap.length∧z3e P g∧z7j P n g args ss.s r ss'.s∧k r ss'=some b:=by
 unfold y9n at hc
 split at hc
 ·rename_i t ht'
  exact hO.call _ _ _ _ _ _ _ _ _ _ _ ht' hc hn
 ·obtain ⟨r,h',K',c1,c2,c3,hc⟩:=y36 ht hr hc
  exact ⟨r,⟨⟨ss.s.env,h',ss.s.nt⟩,K'⟩,Nat.le_trans hn c2,c3, .of_aret hn c1,hc⟩
theorem x08 {β:Type} {new:Nat} {ss:SS} {o:Oper} {k:SS→Option β} {b:β} (h:y6s opt β std E new ss o k=some b):∃ q r ra res ss',(z2z std E.T ss.s.env ss.s.heap o.op).ok q r ra∧z1v std E.T ss.s.env ss.s.heap new q r ra o.op=some res∧res.c=true∧ss'.s=z57 ss.s o.dst res.v res.u∧k ss'=some b:=by
 unfold y6s at h
 replace h:=v3r h
 obtain ⟨q,r,ra,hw,h⟩:=w4p h
 split at h
 ·rename_i res hres
  obtain ⟨hc,h⟩:=z6i h
  exact ⟨q,r,ra,res,_,hw,hres,hc,rfl,h⟩
 ·cases h
theorem y90.mono {n:Nat} {ops:Array Oper} {l:List Nat} {s:AS} {Q Q':AS→Prop} (h:y90 P n ops l s Q) (hq:∀ s,Q s→Q' s):y90 P n ops l s Q':=
 ⟨fun b k cs ρ tm ds w B h1 h2=>let ⟨s',ρ',tm',w',q,r⟩:=h.run b k cs ρ tm ds w B h1 h2; ⟨s',ρ',tm',w',hq _ q,r⟩⟩
theorem v1n (ht:y5s P E) (hO:y9v P O) {rec:x2y opt} (hr:x2z P rec) {β:Type} {n:Nat} {ops:Array Oper} {i:Nat} {rest:List Nat} {g0:Nat} {pos:List Bool} {ix:Nat} {ss:SS} {o:Oper} {k:SS→Option β} {b:β} (ho:ops[i]?=some o) (hn:n≤ss.s.heap.length)
  (hs:opK opt std E O rec β n g0 pos ix ops.toList ss o k=some b):∃ ss',n≤ss'.s.heap.length∧(∀ Q,y90 P n ops rest ss'.s Q→y90 P n ops (i::rest) ss.s Q)∧k ss'=some b:=by
 unfold opK at hs
 cases hd:z5x ss.s.nt o.dst with
 |false=>rw [hd] at hs; cases hs
 |true=>
 rw [hd] at hs
 simp only [cond_true] at hs
 obtain ⟨x,hg,hs⟩:=x1u hs
 cases x with
 |false=>exact ⟨⟨z57 ss.s o.dst (.tuple []) [],ss.K⟩,hn,fun Q h=>x9w ho hg hd h,hs⟩
 |true=>
  have plain:y6s opt β std E ss.s.heap.length ⟨ss.s,ss.K⟩ o k=some b→∃ ss',n≤ss'.s.heap.length∧(∀ Q,y90 P n ops rest ss'.s Q→y90 P n ops (i::rest) ss.s Q)∧k ss'=some b:=by
   intro hp
   obtain ⟨q,r,ra,res,ss',hw,hst,hc,he,hk⟩:=x08 hp
   have hl:n≤ss'.s.heap.length:=by rw [he]; exact Nat.le_trans hn (z4f res.u ss.s.heap).1
   refine ⟨ss',hl,fun Q h=>x9v ht.ti ho hg hn hw hst hc hd ?_,hk⟩
   rw [he] at h; exact h
  simp only at hs
  split at hs
  ·rename_i f args ts hop
   split at hs
   ·rename_i g first captured hf
    obtain ⟨r,s1,c1,c2,c3,hs⟩:=y7r ht hO hr hn hs
    exact ⟨⟨⟨y4u s1.s.env o.dst r,s1.s.heap,s1.s.nt⟩,s1.K⟩,c1,fun Q h=>x7b ho hg hop hf c2 c3 hd h,hs⟩
   ·rename_i id hf
    split at hs
    ·rename_i pd g pos' nt env hob
     split at hs
     ·rename_i x0 ps asg body hcode
      have hcode:=ht.code _ _ _ hcode
      cases hb:(ps.toList.all fun q=>Nat.blt q nt)&&Nat.beq args.size ps.size with
      |false=>rw [hb] at hs; cases hs
      |true=>
      rw [hb] at hs
      simp only [Bool.and_eq_true] at hb
      have hca:z4h P g (false::pos')=some asg:=by simp [z4h,hcode,v1e]
      have hcb:z4h P g (true::pos')=some body:=by simp [z4h,hcode,v1e]
      have hidlt:∀ (id:Nat),ss.s.heap.length≤(z1t ss.s.heap id .dead).length:=fun id=>(z2b ss.s.heap id .dead).1
      obtain ⟨e1,s1,a1,a2,hs⟩:=hr _ _ _ _ _ _ _ _ hca (hidlt id) hs
      cases e1 with
      |exit j=>cases hs
      |ret=>cases hs
      |normal=>
       simp only at hs
       obtain ⟨e2,s2,b1,b2,hs⟩:=hr _ _ _ _ _ _ _ _ hcb a1 hs
       have hl:n≤(z1t s2.s.heap id (.loop (y54 e2) (z3j e2) g pos' nt env)).length:=Nat.le_trans hn (Nat.le_trans b1 (z2b _ _ _).1)
       refine ⟨⟨⟨y4u ss.s.env o.dst (.d (.bool (isN e2))),z1t s2.s.heap id (.loop (y54 e2) (z3j e2) g pos' nt env),ss.s.nt⟩,s2.K⟩,hl,fun Q h=>x7a ho hg hn hop hf hob hcode (fun q hq=>Nat.le_of_ble_eq_true (List.all_eq_true.1 hb.1 q hq)) (Nat.eq_of_beq_eq_true hb.2) hd (a2.mono fun e s hq=>?_),hs⟩
       obtain ⟨rfl,rfl⟩:=hq
       refine ⟨rfl,b2.mono fun e s hq=>?_⟩
       obtain ⟨rfl,rfl⟩:=hq
       exact ⟨b1,h⟩
     ·cases hs
    ·cases hs
   ·cases hs
  ·exact plain hs
theorem w79 (ht:y5s P E) (hO:y9v P O) {rec:x2y opt} (hr:x2z P rec) {β:Type} {n:Nat} {ops:Array Oper} {g0:Nat} {pos:List Bool} {k:SS→Option β} {b:β}:∀ (l:List Oper) (i:Nat) (ss:SS),(∀ j o,l[j]?=some o→ops[i+j]?=some o)→n≤ss.s.heap.length→w8a opt std E O rec β n g0 pos ops.toList i l ss k=some b→
  ∃ ss',n≤ss'.s.heap.length∧y90 P n ops (List.range' i l.length) ss.s (fun s2=>s2=ss'.s)∧k ss'=some b:=by
 intro l
 induction l with
 |nil=>
  intro i ss hl hn hs
  simp only [w8a] at hs
  exact ⟨ss,hn,w3s rfl,hs⟩
 |cons o l ih=>
  intro i ss hl hn hs
  simp only [w8a] at hs
  have ho:ops[i]?=some o:=by simpa using hl 0 o rfl
  obtain ⟨s1,hlen,h1,hs⟩:=v1n (rest:=List.range' (i+1) l.length) ht hO hr ho hn hs
  obtain ⟨ss',l1,l2,hs⟩:=ih (i+1) s1 (fun j p hp=>by have:=hl (j+1) p (by simpa using hp); rw [show i+1+j=i+(j+1) by omega]; exact this) hlen hs
  refine ⟨ss',l1,?_,hs⟩
  rw [List.length_cons,List.range'_succ]
  exact h1 _ l2
theorem x9x {ops:List Oper} {base i:Nat} {l:List Nat} (h:x9y ops base i l=true):x7e ops base i l:=by
 intro id hid
 have:=List.all_eq_true.1 h id hid
 rw [Bool.or_eq_true] at this
 rcases this with h|h
 ·exact .inl (Nat.le_of_ble_eq_true h)
 ·rw [Bool.and_eq_true] at h
  by_cases hlt:id<base
  ·exact .inl hlt
  ·exact .inr ⟨id - base,by omega,Nat.le_of_ble_eq_true h.1,h.2⟩
theorem w8b (ht:y5s P E) (hO:y9v P O) {rec:x2y opt} (hr:x2z P rec) {β:Type} {ops:List Oper} {g0:Nat} {pos:List Bool} {base i:Nat} {ss:SS} {o:Oper} {k:SS→Option β} {b:β} (hs:v7n opt std E O rec β g0 pos ops base i ss o k=some b):
  z5x ss.s.nt o.dst=true∧∃ r ss',x8q P E.T ops ss.s base i o r∧ss'.s=z57 ss.s o.dst r.v r.u∧k ss'=some b:=by
 unfold v7n at hs
 cases hd:z5x ss.s.nt o.dst with
 |false=>rw [hd] at hs; cases hs
 |true=>
 rw [hd] at hs
 refine ⟨rfl,?_⟩
 simp only [cond_true] at hs
 obtain ⟨x,hg,hs⟩:=x1u hs
 cases x with
 |false=>exact ⟨_,⟨z57 ss.s o.dst (.tuple []) [],ss.K⟩, .skip hg,rfl,hs⟩
 |true=>
  simp only at hs
  cases hok:x9y ops base i (z78 ss.s.env o.op) with
  |false=>rw [hok] at hs; cases hs
  |true=>
  rw [hok] at hs
  have hids:=x9x hok
  have plain:y6s opt β std E (base+i) ⟨ss.s,ss.K⟩ o k=some b→∃ r ss',x8q P E.T ops ss.s base i o r∧ss'.s=z57 ss.s o.dst r.v r.u∧k ss'=some b:=by
   intro hp
   obtain ⟨q,r,ra,res,ss',hw,hst,hc,he,hk⟩:=x08 hp
   exact ⟨_,ss', .step hg hw hst hc hids,he,hk⟩
  simp only [cond_true] at hs
  split at hs
  ·rename_i f args ts hop
   split at hs
   ·rename_i g first captured hf
    split at hs
    ·rename_i t hp
     cases hfr:y0w (first++captured) with
     |false=>rw [hfr] at hs; cases hs
     |true=>
     rw [hfr] at hs
     obtain ⟨r,c1,c2,hs⟩:=hO.pure _ _ _ _ _ _ _ _ _ _ hp hs
     refine ⟨_,⟨z57 ss.s o.dst r [],ss.K⟩, .call hg hop hf c1 (fun h hh=>c2 h (fun x hx' id hid=>?_)) hids,rfl,hs⟩
     refine hh id ?_
     have hnone:∀ (y:AV),y91 y→tid y=[]:=fun y hy=>x5z hy
     have hfree:=z5w _ hfr
     simp only [List.mem_append] at hx'
     rcases hx' with (hx'|hx')|hx'
     ·obtain ⟨j,hj⟩:=List.getElem?_of_mem hx'
      have hjl:j<first.length:=(List.getElem?_eq_some_iff.1 hj).1
      have:=hnone x (hfree j x (by rw [List.getElem?_append_left hjl]; exact hj))
      rw [this] at hid; simp at hid
     ·rw [z27] at hx'
      obtain ⟨y,hy,rfl⟩:=List.mem_map.1 hx'
      simp only [z78,hop,z5m,if_true,List.mem_flatten,List.mem_map]
      exact ⟨_,⟨y,by simp [Op.operands,Call.operands]; right; simpa using hy,rfl⟩,hid⟩
     ·obtain ⟨j,hj⟩:=List.getElem?_of_mem hx'
      have:=hnone x (hfree (first.length+j) x (by rw [List.getElem?_append_right (by omega)]; simpa using hj))
      rw [this] at hid; simp at hid
    ·cases hfr:y0w (first++z11 ss.s.env args.toList++captured) with
     |false=>
      rw [hfr] at hs
      simp only [cond_false] at hs
      obtain ⟨hcb,hs⟩:=z6i hs
      have lent:∀ {r:AV},v0u P g (bL std ss.s.heap (first++z11 ss.s.env args.toList++captured)).2 r→y2m r=true→∀ h,(∀ id∈z78 ss.s.env o.op,z0s h id=z0s ss.s.heap id)→z97 P g (first++z11 ss.s.env args.toList++captured) h r h:=by
       intro r hp hfl h hh
       have e:bL std h (first++z11 ss.s.env args.toList++captured)=bL std ss.s.heap (first++z11 ss.s.env args.toList++captured):=by
        refine z94 std _ fun id hid=>hh id ?_
        have hmem:∀ {l:List AV} {id:Nat},id∈x27 l→∃ x∈l,id∈tid x:=by
         intro l
         induction l with
         |nil=>intro id h; simp [x27] at h
         |cons x l ih=>
          intro id h
          simp only [x27,List.mem_append] at h
          rcases h with h|h
          ·exact ⟨x,by simp,h⟩
          ·obtain ⟨y,h1,h2⟩:=ih h; exact ⟨y,by simp [h1],h2⟩
        have hmem2:∀ {l:List AV} {id:Nat} {x:AV},x∈l→id∈tid x→id∈x27 l:=by
         intro l
         induction l with
         |nil=>intro id x h; simp at h
         |cons y l ih=>
          intro id x h h2
          simp only [List.mem_cons] at h
          simp only [x27,List.mem_append]
          rcases h with rfl|h
          ·exact .inl h2
          ·exact .inr (ih h h2)
        obtain ⟨x,hx,hid⟩:=hmem hid
        simp only [z78,hop,z5m,if_true,List.mem_flatten,List.mem_map]
        have hfs:id∈tid (z09 ss.s.env f)∨∃ y∈args.toList,id∈tid (z09 ss.s.env y):=by
         simp only [List.mem_append] at hx
         rcases hx with (hx|hx)|hx
         ·left; rw [hf]; simp only [tid,List.mem_append]; exact .inl (hmem2 hx hid)
         ·right
          rw [z27] at hx
          obtain ⟨y,hy,rfl⟩:=List.mem_map.1 hx
          exact ⟨y,hy,hid⟩
         ·left; rw [hf]; simp only [tid,List.mem_append]; exact .inr (hmem2 hx hid)
        rcases hfs with h|⟨y,hy,h⟩
        ·exact ⟨_,⟨f,by simp [Op.operands,Call.operands],rfl⟩,h⟩
        ·exact ⟨_,⟨y,by simp [Op.operands,Call.operands]; right; simpa using hy,rfl⟩,h⟩
       exact v5m (by rw [e]; exact hp) (by rw [e]; exact hcb) hfl
      split at hs
      ·rename_i t hpu
       cases hfb:y0w (bL std ss.s.heap (first++z11 ss.s.env args.toList++captured)).2 with
       |false=>rw [hfb] at hs; cases hs
       |true=>
       rw [hfb] at hs
       simp only [cond_true] at hs
       obtain ⟨r,c1,c2,hs⟩:=hO.pure _ _ _ _ _ _ _ _ _ _ hpu hs
       cases hfl:y2m r with
       |false=>rw [hfl] at hs; cases hs
       |true=>
       rw [hfl] at hs
       have hp:v0u P g (bL std ss.s.heap (first++z11 ss.s.env args.toList++captured)).2 r:=c2 [] (fun x hx id hid=>by
        obtain ⟨j,hj⟩:=List.getElem?_of_mem hx
        rw [x5z (z5w _ hfb j x hj)] at hid; simp at hid)
       exact ⟨_,⟨z57 ss.s o.dst r [],ss.K⟩, .call hg hop hf c1 (lent hp hfl) hids,rfl,hs⟩
      ·obtain ⟨r,h',K',c1,c2,c3,hs⟩:=y36 ht hr hs
       cases hfl:y2m (z4p h' (fun _=>false) r) with
       |false=>rw [hfl] at hs; cases hs
       |true=>
       rw [hfl] at hs
       exact ⟨_,⟨z57 ss.s o.dst (z4p h' (fun _=>false) r) [],ss.K⟩, .call hg hop hf c3 (lent c1.pret hfl) hids,rfl,hs⟩
     |true=>
     rw [hfr] at hs
     simp only [cond_true] at hs
     obtain ⟨r,h',K',c1,c2,c3,hs⟩:=y36 ht hr hs
     cases hfb:z99 (z4p h' (fun _=>false) r) with
     |false=>rw [hfb] at hs; cases hs
     |true=>
     rw [hfb] at hs
     exact ⟨_,⟨z57 ss.s o.dst (z4p h' (fun _=>false) r) [],ss.K⟩, .call hg hop hf c3 (fun h _=>c1.pret.at (z5w _ hfr) (y31 _ hfb) h) hids,rfl,hs⟩
   ·cases hs
  ·exact plain hs
theorem x5f (ht:y5s P E) (hO:y9v P O) {rec:x2y opt} (hr:x2z P rec) {β:Type} {ops:List Oper} {g0:Nat} {pos:List Bool} {nt base:Nat} {k:SS→Option β} {b:β}:∀ (l:List Oper) (acc:List (List Nat)) (i:Nat) (ss:SS),ss.s.nt=nt→x7c opt std E O rec β g0 pos ops base acc i l ss k=some b→
  ∃ ss',ss.s.heap.length≤ss'.s.heap.length∧DS P E.T ops nt base (fun s2=>s2=ss'.s) acc i l ss.s∧k ss'=some b:=by
 intro l
 induction l with
 |nil=>
  intro acc i ss hnt hs
  simp only [x7c] at hs
  exact ⟨ss,Nat.le_refl _, .nil rfl,hs⟩
 |cons o l ih=>
  intro acc i ss hnt hs
  simp only [x7c] at hs
  cases hpb:x5a ops acc i o (z78 ss.s.env o.op) with
  |false=>rw [hpb] at hs; cases hs
  |true=>
  rw [hpb] at hs
  simp only [cond_true] at hs
  obtain ⟨d1,r,s1,d2,he,hs⟩:=w8b ht hO hr hs
  obtain ⟨ss',l1,l2,hs⟩:=ih (acc++[z78 ss.s.env o.op]) (i+1) s1 (by rw [he]; exact hnt) hs
  refine ⟨ss',Nat.le_trans (by rw [he]; exact (z4f r.u ss.s.heap).1) l1, .cons hpb (by rw [←hnt]; exact d1) d2 ?_,hs⟩
  rw [←he]; exact l2
theorem w82 (ht:y5s P E) {β:Type} {x:x8r} {ss:SS} {k:SS→Option β} {b:β} (h:v8y opt β std E x ss k=some b):
  ∃ id kd es ti ks ka ez q r y,x6p E.T x ss.s id kd es ti ks ka ez q r y∧k ⟨x7s x ss.s id (z6g q r ez) y (z74 es q r kd y),ss.K⟩=some b:=by
 unfold v8y at h
 split at h
 ·rename_i id kd kc n ha hb hc
  split at h
  ·rename_i es ti hob hti
   split at h
   ·rename_i ks ka ez hdesc hop
    obtain ⟨q,r,ra,hw,h'⟩:=y33 h
    clear h
    have h:=h'
    clear h'
    simp only [y06,hti] at hw
    split at h
    ·rename_i ko o hold
     cases hcnd:(ko==kc)&&(Nat.blt x.dL ss.s.nt&&(Nat.blt x.dB ss.s.nt&&(Nat.blt x.dM ss.s.nt&&(Nat.blt x.dX ss.s.nt&&Nat.blt id ss.s.heap.length)))) with
     |false=>rw [hcnd] at h; cases h
     |true=>
      rw [hcnd] at h
      simp only [Bool.and_eq_true,beq_iff_eq] at hcnd
      obtain ⟨rfl,c1,c2,c3,c4,c5⟩:=hcnd
      refine ⟨id,kd,es,ti,ks,ka,ez,q,r,_,⟨ha,hb,hob,hti,hdesc,hw,⟨_,_,_,hold,hc,hop,rfl⟩,⟨Nat.le_of_ble_eq_true c1,Nat.le_of_ble_eq_true c2,Nat.le_of_ble_eq_true c3,Nat.le_of_ble_eq_true c4⟩,Nat.le_of_ble_eq_true c5⟩,?_⟩
      rw [hold]; exact h
    ·cases h
   ·cases h
  ·cases h
 ·cases h
theorem w6a (ht:y5s P E) (hO:y9v P O):∀ f,x2z P (sym opt std E O f):=by
 intro f
 induction f with
 |zero=>intro β n g pos c ss k b _ _ h; cases h
 |succ f ih=>
  intro β n g pos c ss k b hcd hn h
  have sub:∀ b c',v1e c b=some c'→z4h P g (b::pos)=some c':=fun b c' hb=>by simp [z4h,hcd,hb]
  cases c with
  |skip=>simp only [sym] at h; exact ⟨_,_,hn,w1t ⟨rfl,rfl⟩,h⟩
  |label _=>simp only [sym] at h; exact ⟨_,_,hn,x77 ⟨rfl,rfl⟩,h⟩
  |exit id=>simp only [sym] at h; exact ⟨_,_,hn,w1u ⟨rfl,rfl⟩,h⟩
  |ret=>simp only [sym] at h; exact ⟨_,_,hn,w46 ⟨rfl,rfl⟩,h⟩
  |seq a b'=>
   simp only [sym] at h
   obtain ⟨e1,s1,l1,l2,h⟩:=ih _ _ _ _ _ _ _ _ (sub false a rfl) hn h
   cases e1 with
   |normal=>
    obtain ⟨e,ss',m1,m2,h⟩:=ih _ _ _ _ _ _ _ _ (sub true b' rfl) l1 h
    refine ⟨e,ss',m1,y9d (l2.mono fun e' s2 hq=>?_),h⟩
    obtain ⟨rfl,rfl⟩:=hq
    exact m2
   |exit j=>
    refine ⟨_,_,l1,y9d (l2.mono fun e' s2 hq=>?_),h⟩
    obtain ⟨rfl,rfl⟩:=hq
    exact ⟨rfl,rfl⟩
   |ret=>
    refine ⟨_,_,l1,y9d (l2.mono fun e' s2 hq=>?_),h⟩
    obtain ⟨rfl,rfl⟩:=hq
    exact ⟨rfl,rfl⟩
  |cond c a b'=>
   simp only [sym] at h
   obtain ⟨e,ss1,ss',⟨g1,g2⟩,hv,hlen,h⟩:=hO.join _ _ _ _ _ _ _ (fun e ss1=>n≤ss1.s.heap.length∧z7c P n (.cond c a b') ss.s (fun e' s2=>e'=e∧s2=ss1.s)) (fun γ k b h1=>by
    obtain ⟨x,hc,h1⟩:=w5b h1
    cases x with
    |true=>
     obtain ⟨e,ss',l1,l2,h1⟩:=ih _ _ _ _ _ _ _ _ (sub false a rfl) hn h1
     exact ⟨e,ss',⟨l1,x2f hc l2⟩,h1⟩
    |false=>
     obtain ⟨e,ss',l1,l2,h1⟩:=ih _ _ _ _ _ _ _ _ (sub true b' rfl) hn h1
     exact ⟨e,ss',⟨l1,x2f hc l2⟩,h1⟩) h
   refine ⟨e,ss',hlen g1,y10 (g2.mono fun e' s2 hq=>?_),h⟩
   obtain ⟨rfl,rfl⟩:=hq
   exact ⟨_,hv,rfl,rfl⟩
  |block id c=>
   simp only [sym] at h
   obtain ⟨e,ss1,ss',⟨g1,g2⟩,hv,hlen,h⟩:=hO.join _ _ _ _ _ _ _ (fun e ss1=>n≤ss1.s.heap.length∧z7c P n (.block id c) ss.s (fun e' s2=>e'=e∧s2=ss1.s)) (fun γ k b h1=>by
    obtain ⟨x,s1,l1,l2,h1⟩:=ih _ _ _ _ _ _ _ _ (sub false c rfl) hn h1
    cases x with
    |exit j=>
     simp only at h1
     cases hb:Nat.beq j id with
     |true=>
      rw [hb] at h1
      refine ⟨_,_,⟨l1,z90 (l2.mono fun e' s2 hq=>?_)⟩,h1⟩
      obtain ⟨rfl,rfl⟩:=hq
      simp only
      rw [if_pos (Nat.eq_of_beq_eq_true hb)]
      exact ⟨trivial,trivial⟩
     |false=>
      rw [hb] at h1
      refine ⟨_,_,⟨l1,z90 (l2.mono fun e' s2 hq=>?_)⟩,h1⟩
      obtain ⟨rfl,rfl⟩:=hq
      simp only
      rw [if_neg (by rintro rfl; simp at hb)]
      exact ⟨trivial,trivial⟩
    |normal=>
     refine ⟨_,_,⟨l1,z90 (l2.mono fun e' s2 hq=>?_)⟩,h1⟩
     obtain ⟨rfl,rfl⟩:=hq
     exact ⟨rfl,rfl⟩
    |ret=>
     refine ⟨_,_,⟨l1,z90 (l2.mono fun e' s2 hq=>?_)⟩,h1⟩
     obtain ⟨rfl,rfl⟩:=hq
     exact ⟨rfl,rfl⟩) h
   refine ⟨e,ss',hlen g1,y10 (g2.mono fun e' s2 hq=>?_),h⟩
   obtain ⟨rfl,rfl⟩:=hq
   exact ⟨_,hv,rfl,rfl⟩
  |scope c=>
   simp only [sym] at h
   obtain ⟨e,ss',l1,l2,h⟩:=ih _ _ _ _ _ _ _ _ (sub false c rfl) hn h
   exact ⟨e,ss',l1,x76 l2,h⟩
  |loop c=>
   simp only [sym] at h
   split at h
   ·rename_i t hl
    exact hO.loop _ _ _ _ _ _ _ _ _ hcd hn hl h
   ·obtain ⟨e1,s1,l1,l2,h⟩:=ih _ _ _ _ _ _ _ _ (sub false c rfl) hn h
    cases e1 with
    |normal=>
     obtain ⟨e,ss',m1,m2,h⟩:=ih _ _ _ _ _ _ _ _ hcd l1 h
     refine ⟨e,ss',m1,z3b (l2.mono fun e' s2 hq=>?_),h⟩
     obtain ⟨rfl,rfl⟩:=hq
     exact m2
    |exit j=>
     refine ⟨_,_,l1,z3b (l2.mono fun e' s2 hq=>?_),h⟩
     obtain ⟨rfl,rfl⟩:=hq
     exact ⟨rfl,rfl⟩
    |ret=>
     refine ⟨_,_,l1,z3b (l2.mono fun e' s2 hq=>?_),h⟩
     obtain ⟨rfl,rfl⟩:=hq
     exact ⟨rfl,rfl⟩
  |region id ops drawn=>
   cases drawn with
   |false=>
    simp only [sym] at h
    have hl:∀ j o,ops.toList[j]?=some o→ops[0+j]?=some o:=fun j o hj=>by rw [Nat.zero_add, ←Array.getElem?_toList]; exact hj
    have go:∀ (γ:Type) (k:AX→SS→Option γ) (b:γ),(O.view γ n g pos ss fun ss=>w8a opt std E O (sym opt std E O f) γ n g pos ops.toList 0 ops.toList ss fun s'=>k .normal s')=some b→
      ∃ e ss',(n≤ss'.s.heap.length∧z7c P n (.region id ops false) ss.s (fun e' s2=>e'=e∧s2=ss'.s))∧k e ss'=some b:=by
     intro γ k b h
     obtain ⟨ss,hv,hn,h⟩:=hO.view _ _ _ _ _ _ _ hn h
     obtain ⟨ss',l1,this,h⟩:=w79 ht hO ih ops.toList 0 ss hl hn h
     refine ⟨_,ss',⟨l1,y35 hv (x4c ?_)⟩,h⟩
     rw [Array.length_toList, ←List.range_eq_range'] at this
     exact this.mono fun s h=>⟨rfl,h⟩
    cases hgd:(x31 ops.toList||v8r E ops.toList) with
    |false=>
     rw [hgd] at h
     obtain ⟨e,ss',⟨l1,l2⟩,h⟩:=go β k b h
     exact ⟨e,ss',l1,l2,h⟩
    |true=>
     rw [hgd] at h
     simp only [cond_true] at h
     obtain ⟨e,ss1,ss',⟨g1,g2⟩,hv,hlen,h⟩:=hO.join _ _ _ _ _ _ _ (fun e ss1=>n≤ss1.s.heap.length∧z7c P n (.region id ops false) ss.s (fun e' s2=>e'=e∧s2=ss1.s)) (fun γ k b h1=>go γ k b h1) h
     refine ⟨e,ss',hlen g1,y10 (g2.mono fun e' s2 hq=>?_),h⟩
     obtain ⟨rfl,rfl⟩:=hq
     exact ⟨_,hv,rfl,rfl⟩
   |true=>
    simp only [sym] at h
    cases hb:y57 ops.toList&&z8q ops.toList with
    |false=>rw [hb] at h; cases h
    |true=>
    rw [hb] at h
    simp only [Bool.and_eq_true] at hb
    simp only [cond_true] at h
    obtain ⟨ss,hv,hn,h⟩:=hO.view _ _ _ _ _ _ _ hn h
    split at h
    ·obtain ⟨ss',l1,l2,h⟩:=x5f ht hO ih (nt:=ss.s.nt) ops.toList [] 0 ss rfl h
     exact ⟨_,ss',Nat.le_trans hn l1,y35 hv (w1v ht.mixed ht.ti hn hb.1 hb.2 (l2.mono fun s2 h=>⟨rfl,h⟩)),h⟩
    ·rename_i pre x hof
     cases hie:y3z ops.toList with
     |false=>rw [hie] at h; cases h
     |true=>
     rw [hie] at h
     simp only [cond_true] at h
     obtain ⟨ss',l1,l2,h⟩:=x5f ht hO ih (nt:=ss.s.nt) pre [] 0 ss rfl h
     obtain ⟨id,kd,es,ti,ks,ka,ez,q,r,y,hR,h⟩:=w82 ht h
     refine ⟨_,_,?_,y35 hv (w47 ht.mixed ht.ti hn hb.1 hb.2 hie hof l2 (Q:=fun e' s2=>e'= .normal∧s2=x7s x ss'.s id (z6g q r ez) y (z74 es q r kd y)) fun s1 hs1 hnt=>⟨id,kd,es,ti,ks,ka,ez,q,r,y,by rw [hs1]; exact hR,rfl,by rw [hs1]⟩),h⟩
     exact Nat.le_trans hn (Nat.le_trans l1 (z2b _ _ _).1)
  |rangeFunc fo ps asg body=>
   simp only [sym] at h
   split at h
   ·rename_i g' first captured hf
    obtain ⟨r,sc,c1,c2,c3,h⟩:=y7r ht hO ih (by show _≤(z1t ss.s.heap ss.s.heap.length _).length; rw [y41]; exact Nat.le_refl _) h
    split at h
    ·rename_i st pd gc' pos' nt' env' hob
     have fin:st≠ .busy→∀ e1 s1,z9m sc.s (z1t sc.s.heap ss.s.heap.length .dead) pd=some (e1,s1)→n≤s1.heap.length∧z7c P n (.rangeFunc fo ps asg body) ss.s (fun e' s2=>e'=e1∧s2=s1):=by
      intro hst e1 s1 haf
      have hs1:s1.heap=z1t sc.s.heap ss.s.heap.length .dead:=by
       unfold z9m at haf
       split at haf<;>cases haf<;>rfl
      refine ⟨?_,y59 hcd hf c2 hn c3 hob hst haf ⟨rfl,rfl⟩⟩
      rw [hs1]
      have:=(z2b sc.s.heap ss.s.heap.length .dead).1
      omega
     cases st with
     |busy=>cases h
     |ready=>
      simp only at h
      split at h
      ·rename_i e1 s1 haf
       obtain ⟨x,y⟩:=fin (by simp) _ _ haf
       exact ⟨_,⟨s1,sc.K⟩,x,y,h⟩
      ·cases h
     |done=>
      simp only at h
      split at h
      ·rename_i e1 s1 haf
       obtain ⟨x,y⟩:=fin (by simp) _ _ haf
       exact ⟨_,⟨s1,sc.K⟩,x,y,h⟩
      ·cases h
     |exhausted=>
      simp only at h
      split at h
      ·rename_i e1 s1 haf
       obtain ⟨x,y⟩:=fin (by simp) _ _ haf
       exact ⟨_,⟨s1,sc.K⟩,x,y,h⟩
      ·cases h
    ·cases h
   ·cases h
  |_=>simp only [sym] at h; cases h
end
end Go.Am
end
section
namespace Go.Am
def infoOf (P : Program) (g : FuncId) : Option w54 :=
 match P.funcs[g]? with
 | some fn => match fn.body with
  | some c => bif fn.name == "runtime.NumGoroutine" then none else some ⟨c, fn.ntmps, fn.results.toList⟩
  | none => none
 | none => none
theorem w1c {P : Program} {g : FuncId} {fn : Func} {c : Code} (h : P.funcs[g]? = some fn) (hb : fn.body = some c) (hn : (fn.name == "runtime.NumGoroutine") = false) : z3e P g := by
 intro args w
 have hn' : ¬ (fn.name = "runtime.NumGoroutine") := by simpa using hn
 unfold callFunc
 simp [Sem.program, Sem.run, h, hb, hn']
theorem x1q {P : Program} {g : FuncId} {i : w54} (h : infoOf P g = some i) : ∃ fn, P.funcs[g]? = some fn ∧ fn.body = some i.body ∧ fn.ntmps = i.nt ∧ fn.results.toList = i.res ∧ z3e P g := by
 unfold infoOf at h
 split at h
 ·rename_i fn hfn
  split at h
  ·rename_i c hc
   cases hn : (fn.name == "runtime.NumGoroutine") with
   | true => rw [hn] at h; cases h
   | false => rw [hn] at h; cases h; exact ⟨fn, hfn, hc, rfl, rfl, w1c hfn hc hn⟩
  ·cases h
 ·cases h
def u2f (f:TypeId→List CK):List Field→List CK
 |[]=>[]
 |x::r=>f x.type++u2f f r
def u2d:List CK→Option (List CR)
 |[]=>some []
 |c::cs=>match c,u2d cs with
  | .int k,some l=>some (.int k::l)
  | .bool,some l=>some (.bool::l)
  | .str,some l=>some (.str::l)
  | .list z,some l=>some (.list z::l)
  |_,_=>none
def v5k (P:Program):Nat→TypeId→List CK
 |0,_=>[.other]
 |n+1,t=>match P.underlying t with
  |some (.int k)=>[.int k]
  |some .bool=>[.bool]
  |some .string=>[.str]
  |some (.slice e)=>match z98 P e with
   |some z=>[.list z]
   |none=>[.other]
  |some (.struct fs)=>u2f (v5k P n) fs.toList
  |some (.array m e)=>(List.replicate m (v5k P n e)).flatten
  |some (.pointer e)=>match P.underlying e with
   |some (.struct _)=>match u2d (v5k P n e) with
    |some l=>[.ref l]
    |none=>[.other]
   |_=>[.other]
  |_=>[.other]
def v5l (P:Program) (t:TypeId):List CK:=
 match P.underlying t with
 |some (.slice e)=>v5k P 8 e
 |_=>[]
def u0o (P:Program) (t:TypeId):Bool×List CK:=
 match P.underlying t with
 |some (.map _ e)=>((z3r P e).getD false,v5k P 8 e)
 |_=>(false,[])
def autoEnv (P:Program):Env:=⟨v74 P,infoOf P,v5l P,u0o P,z4h P⟩
theorem autoEnv_ok {P:Program} (hm:P.follows .mixedOrders=true):y5s P (autoEnv P) where
 ti:=fun t ti h=>w8k h
 fn:=fun g i h=>x1q h
 code:=fun g pos c h=>h
 mixed:=hm
end Go.Am
end
section
namespace Go.Am
inductive Sc where
 |int|nat|bool|str|rows|map
def Sc.den:Sc→Type
 | .int=>Int
 | .nat=>Nat
 | .bool=>Bool
 | .str=>ByteArray
 | .rows=>List (List D)
 | .map=>List (D×D)
inductive Val where
 |i (n:Int)|n (n:Nat)|b (b:Bool)|s (s:ByteArray)|r (es:List (List D))|m (es:List (D×D))
def Tup:List Sc→Type
 |[]=>Unit
 |s::r=>s.den×Tup r
def STup:List (List Sc)→Type
 |[]=>Empty
 |[t]=>Tup t
 |t::u::ts=>Tup t⊕STup (u::ts)
def toV:(s:Sc)→s.den→Val
 | .int,x=> .i x
 | .nat,x=> .n x
 | .bool,x=> .b x
 | .str,x=> .s x
 | .rows,x=> .r x
 | .map,x=> .m x
def y5u:(ss:List Sc)→Tup ss→List Val
 |[],_=>[]
 |s::r,x=>toV s x.1::y5u r x.2
def ofV:(s:Sc)→Val→Option s.den
 | .int, .i x=>some x
 | .nat, .n x=>some x
 | .bool, .b x=>some x
 | .str, .s x=>some x
 | .rows, .r x=>some x
 | .map, .m x=>some x
 |_,_=>none
def w8d:(ss:List Sc)→List Val→Option (Tup ss)
 |[],[]=>some ()
 |s::r,v::vs=>match ofV s v,w8d r vs with
  |some x,some y=>some (x,y)
  |_,_=>none
 |_,_=>none
theorem w7o {s:Sc} {v:Val} {x:s.den} (h:ofV s v=some x):toV s x=v:=by
 cases s<;>cases v<;>cases h<;>rfl
theorem y4g:∀ {ss:List Sc} {vs:List Val} {x:Tup ss},w8d ss vs=some x→y5u ss x=vs
 |[],[],x,_=>rfl
 |[],_::_,x,h=>by simp [w8d] at h
 |_::_,[],x,h=>by simp [w8d] at h
 |s::r,v::vs,x,h=>by
  simp only [w8d] at h
  split at h
  ·rename_i y z h1 h2
   cases h
   simp only [y5u,w7o h1,y4g h2]
  ·cases h
inductive VT where
 |bot
 |int (k:IntKind)|bool|str
 |list (z:Nat)
 |nilp|nilm|nilf|nili|nils
 |agg (l:List VT)
 |ref (l:List VT)
 |bptr (i off:Nat)
 |ptr (i off:Nat)
 |vec (i z:Nat)
 |full (i z:Nat)
 |sl (i z:Nat)
 |slc (i z:Nat)
 |map (i:Nat)
 |yld (i:Nat)
 |clo (fn:Nat) (fs cs:List VT)
 |tuple (l:List VT)
 deriving Inhabited
inductive OT where
 |dead
 |box (l:List VT)
 |row (ck:List CK)
 |map
 |loop (st:LoopState) (pd:Option Code) (g:Nat) (pos:List Bool) (nt:Nat) (env:List (Nat×VT))
 deriving Inhabited
structure ST where
 env:List (Nat×VT)
 heap:List OT
 nt:Nat
def z7f:List OT→List Val→List (Option AO)×List Val
 |[],vs=>([],vs)
 | .row _::t, .r es::vs=>(some (.row es)::(z7f t vs).1,(z7f t vs).2)
 | .map::t, .m es::vs=>(some (.map es)::(z7f t vs).1,(z7f t vs).2)
 |_::t,vs=>(none::(z7f t vs).1,(z7f t vs).2)
def z6w (p:Prim) (L:List (Option AO)) (i:Nat):Nat:=
 match z2o L i with
 |some (some (.row es))=>p.len es
 |_=>0
def w8m (l:List AV):AV:=
 match x8o l with
 |some ds=> .d (.agg ds)
 |none=> .agg l
def w8l (l:List AV):AV:=
 match x8o l with
 |some (d::ds)=> .d (.ref (d::ds))
 |_=> .bot
mutual
def w4v (p:Prim) (L:List (Option AO)):VT→List Val→AV×List Val
 | .bot,vs=>(.bot,vs)
 | .int k, .i n::vs=>(.d (.int k n),vs)
 | .bool, .b b::vs=>(.d (.bool b),vs)
 | .str, .s s::vs=>(.d (.str s),vs)
 | .list z, .r es::vs=>(.d (.list false z es),vs)
 | .nilp,vs=>(.d .nilp,vs)
 | .nilm,vs=>(.d .nilm,vs)
 | .nils,vs=>(.d (.list true 0 []),vs)
 | .nilf,vs=>(.d .nilf,vs)
 | .nili,vs=>(.d .nili,vs)
 | .agg l,vs=>(w8m (z6n p L l vs).1,(z6n p L l vs).2)
 | .ref l,vs=>(w8l (z6n p L l vs).1,(z6n p L l vs).2)
 | .bptr i off,vs=>(.bptr i off,vs)
 | .ptr i off, .n j::vs=>(.ptr i j off,vs)
 | .vec i z,vs=>(.slice i z 0 (z6w p L i) none,vs)
 | .full i z,vs=>(.slice i z 0 (z6w p L i) (some (z6w p L i)),vs)
 | .sl i z, .n off:: .n len::vs=>(.slice i z off len none,vs)
 | .slc i z, .n off:: .n len:: .n c::vs=>(.slice i z off len (some c),vs)
 | .map i,vs=>(.map i,vs)
 | .yld i,vs=>(.yld i,vs)
 | .clo fn fs cs,vs=>(.clo (.func fn) (z6n p L fs vs).1 (z6n p L cs (z6n p L fs vs).2).1,(z6n p L cs (z6n p L fs vs).2).2)
 | .tuple l,vs=>(.tuple (z6n p L l vs).1,(z6n p L l vs).2)
 |_,vs=>(.bot,vs)
def z6n (p:Prim) (L:List (Option AO)):List VT→List Val→List AV×List Val
 |[],vs=>([],vs)
 |t::ts,vs=>((w4v p L t vs).1::(z6n p L ts (w4v p L t vs).2).1,(z6n p L ts (w4v p L t vs).2).2)
end
def w4w (p:Prim) (L:List (Option AO)):List (Nat×VT)→List Val→List (Nat×AV)×List Val
 |[],vs=>([],vs)
 |(k,t)::ts,vs=>((k,(w4v p L t vs).1)::(w4w p L ts (w4v p L t vs).2).1,(w4w p L ts (w4v p L t vs).2).2)
def v4c (p:Prim) (L:List (Option AO)) (o:Option AO):OT→List Val→AO×List Val
 | .box l,vs=>(.box (z6n p L l vs).1,(z6n p L l vs).2)
 | .loop st pd g pos nt env,vs=>(.loop st pd g pos nt (w4w p L env vs).1,(w4w p L env vs).2)
 |_,vs=>(match o with|some o=>o|none=> .dead,vs)
def y5w (p:Prim) (L:List (Option AO)):List (Option AO)→List OT→List Val→List AO×List Val
 |o::os,t::ts,vs=>((v4c p L o t vs).1::(y5w p L os ts (v4c p L o t vs).2).1,(y5w p L os ts (v4c p L o t vs).2).2)
 |_,_,vs=>([],vs)
def w1d (p:Prim) (t:ST) (vs:List Val):AS:=
 ⟨(w4w p (z7f t.heap vs).1 t.env (y5w p (z7f t.heap vs).1 (z7f t.heap vs).1 t.heap (z7f t.heap vs).2).2).1,(y5w p (z7f t.heap vs).1 (z7f t.heap vs).1 t.heap (z7f t.heap vs).2).1,t.nt⟩
abbrev v6t:=List Bool×List Val
def y5v (σ:List (Option Nat)) (i a:Nat):Bool:=
 match z2o σ i with
 |some (some b)=>Nat.beq a b
 |_=>false
def w4a (σ:List (Option Nat)) (i:Nat):Bool:=
 match z2o σ i with
 |some none=>true
 |_=>false
def y1l (σ:List (Option Nat)) (a:Nat):Bool:=
 match σ with
 |[]=>false
 |some b::r=>Nat.beq a b||y1l r a
 |none::r=>y1l r a
mutual
def z3l (p:Prim) (h:List AO) (σ τ:List (Option Nat)) (L:List (Option AO)):VT→AV→Option v6t
 | .bot,_=>some ([],[])
 | .int k, .d (.int k' n)=>bif k==k' then some ([],[.i n]) else none
 | .bool, .d (.bool b)=>some ([],[.b b])
 | .str, .d (.str s)=>some ([],[.s s])
 | .list z, .d (.list f z' es)=>bif Nat.beq z z' then some ([],[.r es]) else match es with
  |[]=>some ([],[.r []])
  |_=>none
 | .list z, .slice a z' off len _=>bif y1l τ a then none else bif Nat.beq z z' then match z0s h a with
  | .row es=>some ([p.leN (p.add off len) (p.len es)],[.r (p.cut es off len)])
  |_=>none
  else none
 | .nilp, .d .nilp=>some ([],[])
 | .nilm, .d .nilm=>some ([],[])
 | .nils, .d (.list true _ [])=>some ([],[])
 | .nilf, .d .nilf=>some ([],[])
 | .nili, .d .nili=>some ([],[])
 | .agg l, .d (.agg ds)=>y0x p h σ τ L l (toA ds)
 | .agg l, .agg xs=>y0x p h σ τ L l xs
 | .ref l, .d (.ref ds)=>y0x p h σ τ L l (toA ds)
 | .ref l, .bptr a off=>bif y1l τ a then none else match off,z0s h a with
  |0, .box cells=>y0x p h σ τ L l cells
  |_,_=>none
 | .bptr i off, .bptr a off'=>bif y5v σ i a&&Nat.beq off off' then some ([],[]) else none
 | .ptr i off, .ptr a j off'=>bif y5v σ i a&&Nat.beq off off' then some ([],[.n j]) else none
 | .vec i z, .slice a z' off len none=>bif y5v σ i a&&Nat.beq z z' then some ([p.eqN off 0,p.eqN len (z6w p L i)],[]) else none
 | .vec i z, .slice a z' off len (some c)=>bif y5v σ i a&&Nat.beq z z' then match z0s h a with
  | .row es=>some ([p.eqN off 0,p.eqN len (z6w p L i),p.leN (p.add off c) (p.len es)],[])
  |_=>none
  else none
 | .vec i z, .d (.list true _ [])=>bif w4a σ i then match z2o L i with
  |some (some (.row []))=>some ([],[])
  |_=>none
  else none
 | .full i z, .slice a z' off len (some c)=>bif y5v σ i a&&Nat.beq z z' then some ([p.eqN off 0,p.eqN len (z6w p L i),p.eqN c (z6w p L i)],[]) else none
 | .sl i z, .slice a z' off len none=>bif y5v σ i a&&Nat.beq z z' then some ([],[.n off, .n len]) else none
 | .sl i z, .slice a z' off len (some c)=>bif y5v σ i a&&Nat.beq z z' then match z0s h a with
  | .row es=>some ([p.leN (p.add off c) (p.len es)],[.n off, .n len])
  |_=>none
  else none
 | .sl i z, .d (.list true _ [])=>bif w4a σ i then match z2o L i with
  |some (some (.row []))=>some ([],[.n 0, .n 0])
  |_=>none
  else none
 | .slc i z, .slice a z' off len (some c)=>bif y5v σ i a&&Nat.beq z z' then some ([],[.n off, .n len, .n c]) else none
 | .map i, .map a=>bif y5v σ i a then some ([],[]) else none
 | .yld i, .yld a=>bif y5v σ i a then some ([],[]) else none
 | .clo fn fs cs, .clo (.func fn') fs' cs'=>bif Nat.beq fn fn' then match y0x p h σ τ L fs fs',y0x p h σ τ L cs cs' with
  |some (c1,v1),some (c2,v2)=>some (c1++c2,v1++v2)
  |_,_=>none
  else none
 | .tuple l, .tuple xs=>y0x p h σ τ L l xs
 |_,_=>none
def y0x (p:Prim) (h:List AO) (σ τ:List (Option Nat)) (L:List (Option AO)):List VT→List AV→Option v6t
 |[],[]=>some ([],[])
 |t::ts,x::xs=>match z3l p h σ τ L t x,y0x p h σ τ L ts xs with
  |some (c1,v1),some (c2,v2)=>some (c1++c2,v1++v2)
  |_,_=>none
 |_,_=>none
end
def v09 (p:Prim) (h:List AO) (σ τ:List (Option Nat)) (L:List (Option AO)) (env:List (Nat×AV)):List (Nat×VT)→Option v6t
 |[]=>some ([],[])
 |(k,t)::ts=>match z3l p h σ τ L t (z2p env k),v09 p h σ τ L env ts with
  |some (c1,v1),some (c2,v2)=>some (c1++c2,v1++v2)
  |_,_=>none
def y2o (h:List AO):List OT→List (Option Nat)→Option (List Val)
 |[],[]=>some []
 | .row _::t,some a::σ=>match z0s h a with
  | .row es=>(y2o h t σ).map fun r=> .r es::r
  | .arow es=>match y6g es with
   |some l=>(y2o h t σ).map fun r=> .r l::r
   |none=>none
  |_=>none
 | .row _::t,none::σ=>(y2o h t σ).map fun r=> .r []::r
 | .map::t,some a::σ=>match z0s h a with
  | .map es=>(y2o h t σ).map fun r=> .m es::r
  |_=>none
 | .map::_,none::_=>none
 | .box _::t,some _::σ=>y2o h t σ
 | .box _::_,none::_=>none
 | .loop ..::t,some _::σ=>y2o h t σ
 | .loop ..::_,none::_=>none
 | .dead::t,_::σ=>y2o h t σ
 |_,_=>none
def u0k:LoopState→LoopState→Bool
 | .ready, .ready| .busy, .busy| .done, .done| .exhausted, .exhausted=>true
 |_,_=>false
def u0j:Option Code→Option Code→Bool
 |none,none=>true
 |some .ret,some .ret=>true
 |some (.exit i),some (.exit j)=>Nat.beq i j
 |_,_=>false
def y82:List Bool→List Bool→Bool
 |[],[]=>true
 |a::l,b::r=>(a==b)&&y82 l r
 |_,_=>false
def y9z (p:Prim) (h:List AO) (σ0 τ:List (Option Nat)) (L:List (Option AO)):List OT→List (Option Nat)→Option v6t
 |[],[]=>some ([],[])
 | .box l::t,some a::σ=>match z0s h a with
  | .box cells=>match y0x p h σ0 τ L l cells,y9z p h σ0 τ L t σ with
   |some (c1,v1),some (c2,v2)=>some (c1++c2,v1++v2)
   |_,_=>none
  |_=>none
 | .loop st pd g pos nt env::t,some a::σ=>match z0s h a with
  | .loop st' pd' g' pos' nt' env'=>bif u0k st st'&&(u0j pd pd'&&(Nat.beq g g'&&(y82 pos pos'&&Nat.beq nt nt'))) then match v09 p h σ0 τ L env' env,y9z p h σ0 τ L t σ with
   |some (c1,v1),some (c2,v2)=>some (c1++c2,v1++v2)
   |_,_=>none
   else none
  |_=>none
 | .box _::_,none::_=>none
 | .loop ..::_,none::_=>none
 |_::t,_::σ=>y9z p h σ0 τ L t σ
 |_,_=>none
def w0e:List (Option Nat)→Bool
 |[]=>true
 |none::r=>w0e r
 |some a::r=>!(y1l r a)&&w0e r
def x1p:Nat→Nat→List (Option Nat)→Bool
 |_,0,_=>true
 |i,n+1,some a::r=>Nat.beq i a&&x1p (i+1) n r
 |_,_+1,_=>false
def y3k:List OT→List (Option Nat)→List (Option Nat)
 | .dead::ts,_::σ=>none::y3k ts σ
 |_::ts,s::σ=>s::y3k ts σ
 |_,_=>[]
def u0h (p:Prim) (n:Nat) (t:ST) (σ:List (Option Nat)) (s:AS):Option v6t:=
 bif Nat.beq s.nt t.nt&&(w0e (y3k t.heap σ)&&x1p 0 n σ) then match y2o s.heap t.heap σ with
  |some v1=>match y9z p s.heap σ (y3k t.heap σ) (z7f t.heap v1).1 t.heap σ,v09 p s.heap σ (y3k t.heap σ) (z7f t.heap v1).1 s.env t.env with
   |some (c2,v2),some (c3,v3)=>some (c2++c3,v1++(v2++v3))
   |_,_=>none
  |none=>none
 else none
end Go.Am
end
section
namespace Go.Am
def z1z:List Bool→Bool
 |[]=>true
 |b::l=>b&&z1z l
theorem z2r {a b:List Bool} (h:z1z (a++b)=true):z1z a=true∧z1z b=true:=by
 induction a with
 |nil=>exact ⟨rfl,h⟩
 |cons x a ih=>
  simp only [List.cons_append,z1z,Bool.and_eq_true] at h⊢
  exact ⟨⟨h.1,(ih h.2).1⟩,(ih h.2).2⟩
section
variable {P:Program}
structure w55 (P:Program) (ρ ρ':Rho) (O':Nat→Prop) (h:List AO) (w:World) (σ τ:List (Option Nat)) (L:List (Option AO)):Prop where
 hr:z0e P ρ h w
 loc:∀ i a,z2o σ i=some (some a)→ρ' i=ρ a
 sub:∀ b,O' b→z0n ρ h b
 out:∀ a M,ρ a=some M→(z0s h a).live=true→y1l τ a=false→¬ O' M.blk
variable {ρ ρ':Rho} {O':Nat→Prop} {h:List AO} {w:World} {σ τ:List (Option Nat)} {L:List (Option AO)}
theorem x6l {P:Program} {ρ ρ':Rho} {O':Nat→Prop} {h:List AO} {w:World} (hr:z0e P ρ h w) {i a z off len cp:Nat} (hl:ρ' i=ρ a) {es:List (List D)} (hes:z0s h a= .row es)
  (hle:std.leN (std.add off cp) (std.len es)=true) {v:Value} (hv:z02 ρ (z0n ρ h) w (.slice a z off len (some cp)) v):z02 ρ' O' w (.slice i z off len none) v:=by
 have hle:off+cp≤es.length:=z3d hle
 cases hv with
 |slice _ _ _ _ _ M a' cc hM hz ha hcc hlc=>
  have hc:cp=cc:=by
   rcases hcc with h|⟨h,_⟩
   ·cases h; rfl
   ·cases h
  subst hc
  cases hcz:cp with
  |zero=>
   subst hcz
   have:len=0:=by omega
   subst this
   exact .nils _ _ _ _ _ (.inl rfl)
  |succ m=>
   rw [←hcz]
   refine .slice _ _ _ _ _ M _ _ (hl▸hM) hz ha (.inr ⟨rfl,?_⟩) hlc
   have hob:=(hr.obj _ _ hM).2
   rw [hes] at hob
   obtain ⟨hpos,c,t,hc1,hlen,hcell⟩:=hob
   refine ⟨c.size,by simp [z1y,hc1],?_⟩
   have hlt:off+cp - 1<es.length:=by omega
   have hre:=hlen _ _ (List.getElem?_eq_getElem hlt)
   have hj:M.esz - 1<(es[off+cp - 1]).length:=by omega
   obtain ⟨u,hu,_⟩:=hcell _ _ _ _ (List.getElem?_eq_getElem hlt) (List.getElem?_eq_getElem hj)
   have:=(Array.getElem?_eq_some_iff.1 hu).1
   have e:(off+cp)*M.esz=(off+cp - 1)*M.esz+M.esz:=by
    rw [←Nat.succ_mul]; congr 1; omega
   omega
 |nils _ _ _ _ a' hcc=>exact .nils _ _ _ _ _ (.inl rfl)
theorem z3w {i a:Nat} (h:y5v σ i a=true):z2o σ i=some (some a):=by
 unfold y5v at h
 split at h
 ·rename_i b hb; rw [hb,Nat.eq_of_beq_eq_true h]
 ·cases h
theorem w55.keep (c:w55 P ρ ρ' O' h w σ τ L):z5l (z0n ρ h) O' w w:=⟨Nat.le_refl _,fun _ _ _=>rfl,fun b _ hb=>c.sub b hb,fun _ _ h=>h,z05.refl _⟩
theorem w9k (c:w55 P ρ ρ' O' h w σ τ L) {a z off len:Nat} {cap:Option Nat} {es:List (List D)} (hm:y1l τ a=false) (hes:z0s h a= .row es) (hle:std.leN (std.add off len) (std.len es)=true) {v:Value} (hv:z02 ρ (z0n ρ h) w (.slice a z off len cap) v):
  z2c O' w (.list false z (std.cut es off len)) v:=by
 have hle:off+len≤es.length:=z3d hle
 show z2c O' w (.list false z ((es.drop off).take len)) v
 cases hv with
 |nils _ _ _ _ a hc=>simp only [List.take_zero]; exact .lnil _ _ _ _ (by simp)
 |slice _ _ _ _ _ M a' cc hL hz ha hc hl=>
  obtain ⟨hblk,hob⟩:=c.hr.obj a M hL
  rw [hes] at hob
  obtain ⟨hz0,cs,t,hcs,hrows,hcell⟩:=hob
  cases hlen:len with
  |zero=>simp only [List.take_zero]; exact .lnil _ _ _ _ (by simp)
  |succ m=>
   rw [←hlen]
   have hll:((es.drop off).take len).length=len:=by simp; omega
   have hpos:0<len:=by omega
   have hnth:∀ i r,((es.drop off).take len)[i]?=some r→i<len∧es[off+i]?=some r:=by
    intro i r hi
    have hlt:i<len:=by rw [←hll]; exact (List.getElem?_eq_some_iff.1 hi).1
    refine ⟨hlt,?_⟩
    rw [List.getElem?_take_of_lt hlt,List.getElem?_drop] at hi
    exact hi
   have hown:¬ O' M.blk:=c.out a M hL (by rw [hes]; rfl) hm
   have ha':a'=some ⟨M.blk,M.base+off*M.esz,none⟩:=ha (by omega)
   subst hz
   subst ha'
   have hex:∀ k,k<len*M.esz→∃ u,cs[M.base+off*M.esz+k]?=some u∧u.oneCell'=true∧∀ d,(∃ r,((es.drop off).take len)[k / M.esz]?=some r∧r[k % M.esz]?=some d)→z2c O' w d u:=by
    intro k hkz
    have hi:k / M.esz<len:=(Nat.div_lt_iff_lt_mul hz0).2 hkz
    have hlt:k / M.esz<((es.drop off).take len).length:=by rw [hll]; exact hi
    have he:=(hnth (k / M.esz) _ (List.getElem?_eq_getElem hlt)).2
    generalize ((es.drop off).take len)[k / M.esz]=r at he
    have hrl:=hrows _ r he
    have hj:k % M.esz<r.length:=by rw [hrl]; exact Nat.mod_lt _ hz0
    obtain ⟨u,hu,h1,hd⟩:=hcell _ r _ r[k % M.esz] he (List.getElem?_eq_getElem hj)
    have hix:M.base+(off+k / M.esz)*M.esz+k % M.esz=M.base+off*M.esz+k:=by
     have:=Nat.div_add_mod k M.esz
     rw [Nat.add_mul,Nat.mul_comm (k / M.esz)]; omega
    rw [hix] at hu
    refine ⟨u,hu,h1,fun d hd'=>?_⟩
    obtain ⟨r',hr',hdr⟩:=hd'
    have:=(hnth _ _ hr').2
    rw [he] at this; cases this
    rw [List.getElem?_eq_getElem hj] at hdr; cases hdr
    exact hd.keep c.keep
   have key:=z2c.list (O:=O') (w:=w) false ((es.drop off).take len) M.blk (M.base+off*M.esz) M.esz cc hz0
    (by intro e; rw [e] at hll; simp at hll; omega) hown (by rw [hll]; exact hl) (by simp) (fun i r hi=>hrows _ r (hnth i r hi).2)
    (fun k=>(cs[M.base+off*M.esz+k]?).getD undef) (fun k hkk=>?_) (fun k hkk=>?_) (fun i r j d hi hj=>?_)
   ·rw [hll] at key; exact key
   ·rw [hll] at hkk
    obtain ⟨u,hu,h1,_⟩:=hex k hkk
    rw [hu]; exact h1
   ·rw [hll] at hkk
    obtain ⟨u,hu,h1,_⟩:=hex k hkk
    rw [hu]; exact y9k hcs hu
   ·have hjl:j<M.esz:=by rw [←hrows _ r (hnth i r hi).2]; exact (List.getElem?_eq_some_iff.1 hj).1
    have hil:=(hnth i r hi).1
    have hkk:i*M.esz+j<len*M.esz:=by
     have:(i+1)*M.esz≤len*M.esz:=Nat.mul_le_mul_right _ (by omega)
     rw [Nat.add_mul,Nat.one_mul] at this; omega
    obtain ⟨u,hu,_,hd⟩:=hex _ hkk
    rw [hu]
    refine hd d ⟨r,?_,?_⟩
    ·rw [show (i*M.esz+j) / M.esz=i by rw [Nat.mul_comm,Nat.mul_add_div hz0,Nat.div_eq_of_lt hjl,Nat.add_zero]]; exact hi
    ·rw [show (i*M.esz+j) % M.esz=j by rw [Nat.mul_comm,Nat.mul_add_mod,Nat.mod_eq_of_lt hjl]]; exact hj
theorem x1n {O:Nat→Prop} {ρ:Rho} (xs:List AV) (vs:Array Value) (hl:vs.size=xs.length) (hh:∀ (i:Nat) (x:AV),xs[i]?=some x→z02 ρ O w x (vs.getD i undef)):z02 ρ O w (w8m xs) (.agg vs):=by
 unfold w8m
 split
 ·rename_i ds hds
  have e:=z4l hds
  refine .d (.agg _ _ (by rw [hl,e,z1j]) fun i d hd=>?_)
  have:=hh i (.d d) (by rw [e,z2l,hd]; rfl)
  cases this; assumption
 ·exact .agg _ _ hl hh
theorem x1m {O:Nat→Prop} {ρ:Rho} (xs:List AV) (b o:Nat) (cell:Nat→Value) (hO:¬ O b) (hc:∀ k,k<xs.length→w.cell? ⟨b,o+k,none⟩=some (cell k)) (hh:∀ (i:Nat) (x:AV),xs[i]?=some x→z02 ρ O w x (cell i)):z02 ρ O w (w8l xs) (.pointer (some ⟨b,o,none⟩)):=by
 unfold w8l
 split
 ·rename_i d ds hds
  have e:=z4l hds
  refine .d (.ref _ b o (by simp) hO cell (fun k hk=>hc k (by rw [e,z1j]; exact hk)) fun i d' hd=>?_)
  have:=hh i (.d d') (by rw [e,z2l,hd]; rfl)
  cases this; assumption
 ·exact .bot _
theorem w5j {k k':IntKind} (h:(k==k')=true):k=k':=by simpa using h
def VOk (ρ ρ':Rho) (O O':Nat→Prop) (w:World) (L:List (Option AO)) (t:VT) (x:AV) (ws:List Val):Prop:=
 ∀ rest,(w4v std L t (ws++rest)).2=rest∧∀ v,z02 ρ O w x v→z02 ρ' O' w (w4v std L t (ws++rest)).1 v
def VsOk (ρ ρ':Rho) (O O':Nat→Prop) (w:World) (L:List (Option AO)) (ts:List VT) (xs:List AV) (ws:List Val):Prop:=
 ∀ rest,(z6n std L ts (ws++rest)).2=rest∧(z6n std L ts (ws++rest)).1.length=xs.length∧
  ∀ (f:Nat→Value),(∀ i x,xs[i]?=some x→z02 ρ O w x (f i))→∀ i y,(z6n std L ts (ws++rest)).1[i]?=some y→z02 ρ' O' w y (f i)
theorem z8m {a b:Nat} (h:std.eqN a b=true):a=b:=Nat.eq_of_beq_eq_true h
mutual
theorem w0z (c:w55 P ρ ρ' O' h w σ τ L):(t:VT)→(x:AV)→(cs:List Bool)→(ws:List Val)→z3l std h σ τ L t x=some (cs,ws)→z1z cs=true→VOk ρ ρ' (z0n ρ h) O' w L t x ws
 | .bot,x,cs,ws,hf,hc=>by
  cases x<;>(simp only [z3l] at hf; cases hf; exact fun rest=>⟨rfl,fun v hv=> .bot v⟩)
 | .int k,x,cs,ws,hf,hc=>by
  cases x with
  |d d=>
   cases d with
   |int k' n=>
    simp only [z3l] at hf
    cases hk:(k==k') with
    |false=>rw [hk] at hf; cases hf
    |true=>
     rw [hk] at hf; cases hf
     have:=w5j hk; subst this
     exact fun rest=>⟨rfl,fun v hv=>by cases hv with|d hv=>exact .d (hv.keep c.keep)⟩
   |_=>simp only [z3l] at hf; cases hf
  |_=>simp only [z3l] at hf; cases hf
 | .bool,x,cs,ws,hf,hc=>by
  cases x with
  |d d=>
   cases d with
   |bool b=>simp only [z3l] at hf; cases hf; exact fun rest=>⟨rfl,fun v hv=>by cases hv with|d hv=>exact .d (hv.keep c.keep)⟩
   |_=>simp only [z3l] at hf; cases hf
  |_=>simp only [z3l] at hf; cases hf
 | .str,x,cs,ws,hf,hc=>by
  cases x with
  |d d=>
   cases d with
   |str b=>simp only [z3l] at hf; cases hf; exact fun rest=>⟨rfl,fun v hv=>by cases hv with|d hv=>exact .d (hv.keep c.keep)⟩
   |_=>simp only [z3l] at hf; cases hf
  |_=>simp only [z3l] at hf; cases hf
 | .list z,x,cs,ws,hf,hc=>by
  cases x with
  |d d=>
   cases d with
   |list f z' es=>
    simp only [z3l] at hf
    cases hz:Nat.beq z z' with
    |true=>
     rw [hz] at hf; cases hf
     have:=Nat.eq_of_beq_eq_true hz; subst this
     exact fun rest=>⟨rfl,fun v hv=>by cases hv with|d hv=>exact .d ((hv.keep c.keep).le (show DLe (.list f z es) (.list false z es) from .inl (Or.inr ⟨z,rfl,Or.inl rfl⟩)))⟩
    |false=>
     rw [hz] at hf
     cases es with
     |nil=>cases hf; exact fun rest=>⟨rfl,fun v hv=>by cases hv with|d hv=>exact .d ((hv.keep c.keep).le (show DLe (.list f z' []) (.list false z []) from .inl (Or.inr ⟨z,rfl,Or.inr rfl⟩)))⟩
     |cons _ _=>cases hf
   |_=>simp only [z3l] at hf; cases hf
  |slice a z' off len cap=>
   simp only [z3l] at hf
   cases hm:y1l τ a with
   |true=>rw [hm] at hf; cases hf
   |false=>
    rw [hm] at hf; simp only [cond_false] at hf
    cases hz:Nat.beq z z' with
    |false=>rw [hz] at hf; cases hf
    |true=>
     rw [hz] at hf; simp only [cond_true] at hf
     have:=Nat.eq_of_beq_eq_true hz; subst this
     split at hf
     ·rename_i es hes
      cases hf
      simp only [z1z,Bool.and_true] at hc
      exact fun rest=>⟨rfl,fun v hv=> .d (w9k c hm hes hc hv)⟩
     ·cases hf
  |_=>simp only [z3l] at hf; cases hf
 | .nilp,x,cs,ws,hf,hc=>by
  cases x with
  |d d=>cases d<;>simp only [z3l] at hf<;>cases hf; exact fun rest=>⟨rfl,fun v hv=>by cases hv with|d hv=>exact .d (hv.keep c.keep)⟩
  |_=>simp only [z3l] at hf; cases hf
 | .nilm,x,cs,ws,hf,hc=>by
  cases x with
  |d d=>cases d<;>simp only [z3l] at hf<;>cases hf; exact fun rest=>⟨rfl,fun v hv=>by cases hv with|d hv=>exact .d (hv.keep c.keep)⟩
  |_=>simp only [z3l] at hf; cases hf
 | .nils,x,cs,ws,hf,hc=>by
  cases x with
  |d d=>
   cases d with
   |list f z es=>
    cases f with
    |false=>cases es<;>(simp only [z3l] at hf; cases hf)
    |true=>
     cases es with
     |cons _ _=>simp only [z3l] at hf; cases hf
     |nil=>
      simp only [z3l] at hf
      cases hf
      refine fun rest=>⟨rfl,fun v hv=>?_⟩
      cases hv with|d hv=>
      cases hv with
      |lnil _ _ a cc h=>exact .d (.lnil _ _ _ _ h)
      |list _ _ _ _ _ _ _ hne=>exact absurd rfl hne
   |_=>simp only [z3l] at hf; cases hf
  |_=>simp only [z3l] at hf; cases hf
 | .nilf,x,cs,ws,hf,hc=>by
  cases x with
  |d d=>cases d<;>simp only [z3l] at hf<;>cases hf; exact fun rest=>⟨rfl,fun v hv=>by cases hv with|d hv=>exact .d (hv.keep c.keep)⟩
  |_=>simp only [z3l] at hf; cases hf
 | .nili,x,cs,ws,hf,hc=>by
  cases x with
  |d d=>cases d<;>simp only [z3l] at hf<;>cases hf; exact fun rest=>⟨rfl,fun v hv=>by cases hv with|d hv=>exact .d (hv.keep c.keep)⟩
  |_=>simp only [z3l] at hf; cases hf
 | .agg l,x,cs,ws,hf,hc=>by
  cases x with
  |d d=>
   cases d with
   |agg ds=>
    simp only [z3l] at hf
    have ih:=z48 c l (toA ds) cs ws hf hc
    intro rest
    obtain ⟨a,b,e⟩:=ih rest
    refine ⟨a,fun v hv=>?_⟩
    cases hv with|d hv=>
    cases hv with|agg _ vs hl hh=>
    refine x1n _ vs (by rw [b,z1j]; exact hl) (e (fun i=>vs.getD i undef) (fun i x hx=>?_))
    rw [z2l] at hx
    cases hq:ds[i]? with
    |none=>rw [hq] at hx; cases hx
    |some d=>rw [hq] at hx; cases hx; exact .d (hh i d hq)
   |_=>simp only [z3l] at hf; cases hf
  |agg xs=>
   simp only [z3l] at hf
   have ih:=z48 c l xs cs ws hf hc
   intro rest
   obtain ⟨a,b,e⟩:=ih rest
   refine ⟨a,fun v hv=>?_⟩
   cases hv with|agg _ vs hl hh=>
   exact x1n _ vs (by rw [b]; exact hl) (e (fun i=>vs.getD i undef) hh)
  |_=>simp only [z3l] at hf; cases hf
 | .ref l,x,cs,ws,hf,hc=>by
  cases x with
  |d d=>
   cases d with
   |ref ds=>
    simp only [z3l] at hf
    have ih:=z48 c l (toA ds) cs ws hf hc
    intro rest
    obtain ⟨a,b,e⟩:=ih rest
    refine ⟨a,fun v hv=>?_⟩
    cases hv with|d hv=>
    cases hv with|ref _ bb o hne hO cell hcc hh=>
    refine x1m _ bb o cell (fun h=>hO (c.sub _ h)) (fun k hk=>hcc k (by rw [b,z1j] at hk; exact hk)) (e cell (fun i x hx=>?_))
    rw [z2l] at hx
    cases hq:ds[i]? with
    |none=>rw [hq] at hx; cases hx
    |some d=>rw [hq] at hx; cases hx; exact .d (hh i d hq)
   |_=>simp only [z3l] at hf; cases hf
  |bptr a off=>
   simp only [z3l] at hf
   cases hm:y1l τ a with
   |true=>rw [hm] at hf; cases hf
   |false=>
    rw [hm] at hf; simp only [cond_false] at hf
    split at hf
    ·rename_i cells hcells
     have ih:=z48 c l cells cs ws hf hc
     intro rest
     obtain ⟨a',b',e⟩:=ih rest
     refine ⟨a',fun v hv=>?_⟩
     cases hv with|bptr _ _ M hM=>
     obtain ⟨hblk,hob⟩:=c.hr.obj a M hM
     rw [hcells] at hob
     obtain ⟨cc,t,hcc,hj⟩:=hob
     have hown:¬ O' M.blk:=c.out a M hM (by rw [hcells]; rfl) hm
     have hget:∀ k x,cells[k]?=some x→∃ u,cc[M.base+k]?=some u∧(cc[M.base+k]?).getD undef=u∧z02 ρ (z0n ρ h) w x u:=fun k x hx=>by
      obtain ⟨u,hu,hr⟩:=hj k x hx
      exact ⟨u,hu,by rw [hu]; rfl,hr⟩
     exact x1m _ M.blk M.base (fun k=>(cc[M.base+k]?).getD undef) hown (fun k hk=>by
      rw [b'] at hk
      obtain ⟨u,hu,h2,_⟩:=hget k _ (List.getElem?_eq_getElem hk)
      rw [h2]; exact y9k hcc hu) (e (fun k=>(cc[M.base+k]?).getD undef) (fun i x hx=>by
      obtain ⟨u,hu,h2,h3⟩:=hget i x hx
      rw [h2]; exact h3))
    ·cases hf
  |_=>simp only [z3l] at hf; cases hf
 | .bptr i off,x,cs,ws,hf,hc=>by
  cases x with
  |bptr a off'=>
   simp only [z3l] at hf
   cases hb:y5v σ i a&&Nat.beq off off' with
   |false=>rw [hb] at hf; cases hf
   |true=>
    rw [hb] at hf; cases hf
    simp only [Bool.and_eq_true] at hb
    have:=Nat.eq_of_beq_eq_true hb.2; subst this
    exact fun rest=>⟨rfl,fun v hv=>by cases hv with|bptr _ _ M hM=>exact .bptr _ _ M (by rw [c.loc _ _ (z3w hb.1)]; exact hM)⟩
  |_=>simp only [z3l] at hf; cases hf
 | .ptr i off,x,cs,ws,hf,hc=>by
  cases x with
  |ptr a j off'=>
   simp only [z3l] at hf
   cases hb:y5v σ i a&&Nat.beq off off' with
   |false=>rw [hb] at hf; cases hf
   |true=>
    rw [hb] at hf; cases hf
    simp only [Bool.and_eq_true] at hb
    have:=Nat.eq_of_beq_eq_true hb.2; subst this
    exact fun rest=>⟨rfl,fun v hv=>by cases hv with|ptr _ _ _ M hM=>exact .ptr _ _ _ M (by rw [c.loc _ _ (z3w hb.1)]; exact hM)⟩
  |_=>simp only [z3l] at hf; cases hf
 | .vec i z,x,cs,ws,hf,hc=>by
  cases x with
  |slice a z' off len cap=>
   cases cap with
   |some cp=>
    simp only [z3l] at hf
    cases hb:y5v σ i a&&Nat.beq z z' with
    |false=>rw [hb] at hf; cases hf
    |true=>
     rw [hb] at hf; simp only [cond_true] at hf
     simp only [Bool.and_eq_true] at hb
     have:=Nat.eq_of_beq_eq_true hb.2; subst this
     split at hf
     ·rename_i es hes
      cases hf
      simp only [z1z,Bool.and_true,Bool.and_eq_true] at hc
      have e1:=z8m hc.1
      have e2:=z8m hc.2.1
      refine fun rest=>⟨rfl,fun v hv=>?_⟩
      show z02 ρ' O' w (.slice i z 0 (z6w std L i) none) v
      have hle:=hc.2.2
      subst e1
      rw [←e2]
      exact x6l c.hr (c.loc _ _ (z3w hb.1)) hes hle hv
     ·cases hf
   |none=>
    simp only [z3l] at hf
    cases hb:y5v σ i a&&Nat.beq z z' with
    |false=>rw [hb] at hf; cases hf
    |true=>
     rw [hb] at hf; cases hf
     simp only [Bool.and_eq_true] at hb
     have:=Nat.eq_of_beq_eq_true hb.2; subst this
     simp only [z1z,Bool.and_true,Bool.and_eq_true] at hc
     have e1:=z8m hc.1
     have e2:=z8m hc.2
     refine fun rest=>⟨rfl,fun v hv=>?_⟩
     show z02 ρ' O' w (.slice i z 0 (z6w std L i) none) v
     subst e1
     rw [←e2]
     cases hv with
     |slice _ _ _ _ _ M a' cc hM hz ha hcc hl=>exact .slice _ _ _ _ _ M _ _ (by rw [c.loc _ _ (z3w hb.1)]; exact hM) hz ha hcc hl
     |nils _ _ _ _ a' hcc=>exact .nils _ _ _ _ _ hcc
  |d d=>
   cases d with
   |list f z' es=>
    cases f with
    |false=>cases es<;>(simp only [z3l] at hf; cases hf)
    |true=>
     cases es with
     |cons _ _=>simp only [z3l] at hf; cases hf
     |nil=>
      simp only [z3l] at hf
      cases hb:w4a σ i with
      |false=>rw [hb] at hf; cases hf
      |true=>
       rw [hb] at hf; simp only [cond_true] at hf
       split at hf
       ·rename_i hL
        cases hf
        refine fun rest=>⟨rfl,fun v hv=>?_⟩
        show z02 ρ' O' w (.slice i z 0 (z6w std L i) none) v
        have:z6w std L i=0:=by simp [z6w,hL,std]
        rw [this]
        cases hv with|d hv=>
        cases hv with
        |lnil _ _ a' cc hcc=>rw [hcc rfl]; exact .nils _ _ _ _ _ (.inl rfl)
        |list _ _ _ _ _ _ _ hne=>exact absurd rfl hne
       ·cases hf
   |_=>simp only [z3l] at hf; cases hf
  |_=>simp only [z3l] at hf; cases hf
 | .full i z,x,cs,ws,hf,hc=>by
  cases x with
  |slice a z' off len cap=>
   cases cap with
   |none=>simp only [z3l] at hf; cases hf
   |some cp=>
    simp only [z3l] at hf
    cases hb:y5v σ i a&&Nat.beq z z' with
    |false=>rw [hb] at hf; cases hf
    |true=>
     rw [hb] at hf; cases hf
     simp only [Bool.and_eq_true] at hb
     have:=Nat.eq_of_beq_eq_true hb.2; subst this
     simp only [z1z,Bool.and_true,Bool.and_eq_true] at hc
     have e1:=z8m hc.1
     have e2:=z8m hc.2.1
     have e3:=z8m hc.2.2
     refine fun rest=>⟨rfl,fun v hv=>?_⟩
     show z02 ρ' O' w (.slice i z 0 (z6w std L i) (some (z6w std L i))) v
     subst e1
     rw [←e2]
     rw [e3, ←e2] at hv
     cases hv with
     |slice _ _ _ _ _ M a' cc hM hz ha hcc hl=>exact .slice _ _ _ _ _ M _ _ (by rw [c.loc _ _ (z3w hb.1)]; exact hM) hz ha hcc hl
     |nils _ _ _ _ a' hcc=>exact .nils _ _ _ _ _ hcc
  |_=>simp only [z3l] at hf; cases hf
 | .sl i z,x,cs,ws,hf,hc=>by
  cases x with
  |slice a z' off len cap=>
   cases cap with
   |some cp=>
    simp only [z3l] at hf
    cases hb:y5v σ i a&&Nat.beq z z' with
    |false=>rw [hb] at hf; cases hf
    |true=>
     rw [hb] at hf; simp only [cond_true] at hf
     simp only [Bool.and_eq_true] at hb
     have:=Nat.eq_of_beq_eq_true hb.2; subst this
     split at hf
     ·rename_i es hes
      cases hf
      simp only [z1z,Bool.and_true] at hc
      refine fun rest=>⟨rfl,fun v hv=>?_⟩
      show z02 ρ' O' w (.slice i z off len none) v
      exact x6l c.hr (c.loc _ _ (z3w hb.1)) hes hc hv
     ·cases hf
   |none=>
    simp only [z3l] at hf
    cases hb:y5v σ i a&&Nat.beq z z' with
    |false=>rw [hb] at hf; cases hf
    |true=>
     rw [hb] at hf; cases hf
     simp only [Bool.and_eq_true] at hb
     have:=Nat.eq_of_beq_eq_true hb.2; subst this
     refine fun rest=>⟨rfl,fun v hv=>?_⟩
     show z02 ρ' O' w (.slice i z off len none) v
     cases hv with
     |slice _ _ _ _ _ M a' cc hM hz ha hcc hl=>exact .slice _ _ _ _ _ M _ _ (by rw [c.loc _ _ (z3w hb.1)]; exact hM) hz ha hcc hl
     |nils _ _ _ _ a' hcc=>exact .nils _ _ _ _ _ hcc
  |d d=>
   cases d with
   |list f z' es=>
    cases f with
    |false=>cases es<;>(simp only [z3l] at hf; cases hf)
    |true=>
     cases es with
     |cons _ _=>simp only [z3l] at hf; cases hf
     |nil=>
      simp only [z3l] at hf
      cases hb:w4a σ i with
      |false=>rw [hb] at hf; cases hf
      |true=>
       rw [hb] at hf; simp only [cond_true] at hf
       split at hf
       ·rename_i hL
        cases hf
        refine fun rest=>⟨rfl,fun v hv=>?_⟩
        show z02 ρ' O' w (.slice i z 0 0 none) v
        cases hv with|d hv=>
        cases hv with
        |lnil _ _ a' cc hcc=>rw [hcc rfl]; exact .nils _ _ _ _ _ (.inl rfl)
        |list _ _ _ _ _ _ _ hne=>exact absurd rfl hne
       ·cases hf
   |_=>simp only [z3l] at hf; cases hf
  |_=>simp only [z3l] at hf; cases hf
 | .slc i z,x,cs,ws,hf,hc=>by
  cases x with
  |slice a z' off len cap=>
   cases cap with
   |none=>simp only [z3l] at hf; cases hf
   |some cp=>
    simp only [z3l] at hf
    cases hb:y5v σ i a&&Nat.beq z z' with
    |false=>rw [hb] at hf; cases hf
    |true=>
     rw [hb] at hf; cases hf
     simp only [Bool.and_eq_true] at hb
     have:=Nat.eq_of_beq_eq_true hb.2; subst this
     refine fun rest=>⟨rfl,fun v hv=>?_⟩
     show z02 ρ' O' w (.slice i z off len (some cp)) v
     cases hv with
     |slice _ _ _ _ _ M a' cc hM hz ha hcc hl=>exact .slice _ _ _ _ _ M _ _ (by rw [c.loc _ _ (z3w hb.1)]; exact hM) hz ha hcc hl
     |nils _ _ _ _ a' hcc=>exact .nils _ _ _ _ _ hcc
  |_=>simp only [z3l] at hf; cases hf
 | .map i,x,cs,ws,hf,hc=>by
  cases x with
  |map a=>
   simp only [z3l] at hf
   cases hb:y5v σ i a with
   |false=>rw [hb] at hf; cases hf
   |true=>
    rw [hb] at hf; cases hf
    exact fun rest=>⟨rfl,fun v hv=>by cases hv with|map _ M hM=>exact .map _ M (by rw [c.loc _ _ (z3w hb)]; exact hM)⟩
  |_=>simp only [z3l] at hf; cases hf
 | .yld i,x,cs,ws,hf,hc=>by
  cases x with
  |yld a=>
   simp only [z3l] at hf
   cases hb:y5v σ i a with
   |false=>rw [hb] at hf; cases hf
   |true=>
    rw [hb] at hf; cases hf
    exact fun rest=>⟨rfl,fun v hv=>by cases hv with|yld _ M hM=>exact .yld _ M (by rw [c.loc _ _ (z3w hb)]; exact hM)⟩
  |_=>simp only [z3l] at hf; cases hf
 | .clo fn fs ds,x,cs,ws,hf,hc=>by
  cases x with
  |clo fn' fs' ds'=>
   cases fn' with
   |func g=>
    simp only [z3l] at hf
    cases hb:Nat.beq fn g with
    |false=>rw [hb] at hf; cases hf
    |true=>
     rw [hb] at hf; simp only [cond_true] at hf
     have:=Nat.eq_of_beq_eq_true hb; subst this
     split at hf
     ·rename_i c1 v1 c2 v2 h1 h2
      cases hf
      obtain ⟨q1,q2⟩:=z2r hc
      have i1:=z48 c fs fs' c1 v1 h1 q1
      have i2:=z48 c ds ds' c2 v2 h2 q2
      intro rest
      obtain ⟨a1,b1,e1⟩:=i1 (v2++rest)
      obtain ⟨a2,b2,e2⟩:=i2 rest
      simp only [w4v,List.append_assoc]
      rw [a1]
      refine ⟨a2,fun v hv=>?_⟩
      cases hv with|clo _ _ _ vf vc hl1 hl2 r1 r2=>
      exact .clo _ _ _ vf vc (by rw [b1]; exact hl1) (by rw [b2]; exact hl2) (e1 (fun i=>vf.getD i undef) r1) (e2 (fun i=>vc.getD i undef) r2)
     ·cases hf
   |_=>simp only [z3l] at hf; cases hf
  |_=>simp only [z3l] at hf; cases hf
 | .tuple l,x,cs,ws,hf,hc=>by
  cases x with
  |tuple xs=>
   simp only [z3l] at hf
   have ih:=z48 c l xs cs ws hf hc
   intro rest
   obtain ⟨a,b,e⟩:=ih rest
   refine ⟨a,fun v hv=>?_⟩
   cases hv with|tuple _ vs hl hh=>
   exact .tuple _ vs (by rw [b]; exact hl) (e (fun i=>vs.getD i undef) hh)
  |_=>simp only [z3l] at hf; cases hf
theorem z48 (c:w55 P ρ ρ' O' h w σ τ L):(ts:List VT)→(xs:List AV)→(cs:List Bool)→(ws:List Val)→y0x std h σ τ L ts xs=some (cs,ws)→z1z cs=true→VsOk ρ ρ' (z0n ρ h) O' w L ts xs ws
 |[],xs,cs,ws,hf,hc=>by
  cases xs with
  |nil=>simp only [y0x] at hf; cases hf; exact fun rest=>⟨rfl,rfl,fun f hf i y hy=>by simp [z6n] at hy⟩
  |cons _ _=>simp only [y0x] at hf; cases hf
 |t::ts,xs,cs,ws,hf,hc=>by
  cases xs with
  |nil=>simp only [y0x] at hf; cases hf
  |cons x xs=>
   simp only [y0x] at hf
   split at hf
   ·rename_i c1 v1 c2 v2 h1 h2
    cases hf
    obtain ⟨q1,q2⟩:=z2r hc
    have i1:=w0z c t x c1 v1 h1 q1
    have i2:=z48 c ts xs c2 v2 h2 q2
    intro rest
    obtain ⟨a1,e1⟩:=i1 (v2++rest)
    obtain ⟨a2,b2,e2⟩:=i2 rest
    simp only [z6n,List.append_assoc]
    rw [a1]
    refine ⟨a2,by simp [b2],fun f hff i y hy=>?_⟩
    cases i with
    |zero=>simp at hy; subst hy; exact e1 _ (hff 0 x rfl)
    |succ i=>exact e2 (fun i=>f (i+1)) (fun i x hx=>hff (i+1) x (by simpa using hx)) i y (by simpa using hy)
   ·cases hf
end
end
end Go.Am
end
section
namespace Go.Am
def w5v (h:List AO) (a:Nat) (es:List (List D)):Prop:=z0s h a= .row es∨∃ es0,z0s h a= .arow es0∧y6g es0=some es
def LOk (h:List AO):List OT→List (Option Nat)→List (Option AO)→Prop
 |[],[],[]=>True
 | .row _::t,some a::σ,some (.row es)::L=>w5v h a es∧LOk h t σ L
 | .row _::t,none::σ,some (.row [])::L=>LOk h t σ L
 | .map::t,some a::σ,some (.map es)::L=>z0s h a= .map es∧LOk h t σ L
 | .box _::t,some a::σ,none::L=>LOk h t σ L
 | .loop ..::t,some a::σ,none::L=>LOk h t σ L
 | .dead::t,_::σ,none::L=>LOk h t σ L
 |_,_,_=>False
theorem w02 (h:List AO):∀ (t:List OT) (σ:List (Option Nat)) (v:List Val),y2o h t σ=some v→∀ rest,(z7f t (v++rest)).2=rest∧LOk h t σ (z7f t (v++rest)).1∧(z7f t (v++rest)).1=(z7f t v).1:=by
 intro t
 induction t with
 |nil=>
  intro σ v hf rest
  cases σ with
  |nil=>simp only [y2o] at hf; cases hf; exact ⟨rfl,trivial,rfl⟩
  |cons _ _=>simp only [y2o] at hf; cases hf
 |cons o t ih=>
  intro σ v hf rest
  cases σ with
  |nil=>cases o<;>(simp only [y2o] at hf; cases hf)
  |cons s σ=>
   cases o with
   |row ck=>
    cases s with
    |some a=>
     simp only [y2o] at hf
     split at hf
     ·rename_i es hes
      cases hq:y2o h t σ with
      |none=>rw [hq] at hf; cases hf
      |some v'=>
       rw [hq] at hf; cases hf
       obtain ⟨a1,a2,a3⟩:=ih σ v' hq rest
       refine ⟨a1,⟨.inl hes,a2⟩,?_⟩
       exact congrArg (List.cons _) a3
     ·rename_i es0 hes
      split at hf
      ·rename_i l hl
       cases hq:y2o h t σ with
       |none=>rw [hq] at hf; cases hf
       |some v'=>
        rw [hq] at hf; cases hf
        obtain ⟨a1,a2,a3⟩:=ih σ v' hq rest
        refine ⟨a1,⟨.inr ⟨es0,hes,hl⟩,a2⟩,?_⟩
        exact congrArg (List.cons _) a3
      ·cases hf
     ·cases hf
    |none=>
     simp only [y2o] at hf
     cases hq:y2o h t σ with
     |none=>rw [hq] at hf; cases hf
     |some v'=>
      rw [hq] at hf; cases hf
      obtain ⟨a1,a2,a3⟩:=ih σ v' hq rest
      refine ⟨a1,a2,?_⟩
      exact congrArg (List.cons _) a3
   |map=>
    cases s with
    |some a=>
     simp only [y2o] at hf
     split at hf
     ·rename_i es hes
      cases hq:y2o h t σ with
      |none=>rw [hq] at hf; cases hf
      |some v'=>
       rw [hq] at hf; cases hf
       obtain ⟨a1,a2,a3⟩:=ih σ v' hq rest
       refine ⟨a1,⟨hes,a2⟩,?_⟩
       exact congrArg (List.cons _) a3
     ·cases hf
    |none=>simp only [y2o] at hf; cases hf
   |box l=>
    cases s with
    |some a=>
     simp only [y2o] at hf
     obtain ⟨a1,a2,a3⟩:=ih σ v hf rest
     refine ⟨a1,a2,?_⟩
     exact congrArg (List.cons _) a3
    |none=>simp only [y2o] at hf; cases hf
   |loop st pd g pos nt env=>
    cases s with
    |some a=>
     simp only [y2o] at hf
     obtain ⟨a1,a2,a3⟩:=ih σ v hf rest
     refine ⟨a1,a2,?_⟩
     exact congrArg (List.cons _) a3
    |none=>simp only [y2o] at hf; cases hf
   |dead=>
    have hf':y2o h t σ=some v:=by cases s<;>simpa only [y2o] using hf
    obtain ⟨a1,a2,a3⟩:=ih σ v hf' rest
    refine ⟨a1,by cases s<;>exact a2,?_⟩
    exact congrArg (List.cons _) a3
def OOk (ρ ρ':Rho) (O O':Nat→Prop) (h:List AO) (w:World):Option Nat→AO→Prop
 |some a,o=>(o= .dead)∨(∃ es,o= .row es∧w5v h a es)∨(∃ es,o= .map es∧z0s h a= .map es)∨
   (∃ cells ys,z0s h a= .box cells∧o= .box ys∧ys.length=cells.length∧∀ f:Nat→Value,(∀ i x,cells[i]?=some x→z02 ρ O w x (f i))→∀ i y,ys[i]?=some y→z02 ρ' O' w y (f i))∨
   (∃ st pd g pos nt env env',z0s h a= .loop st pd g pos nt env∧o= .loop st pd g pos nt env'∧∀ f:Nat→Value,(∀ t,z02 ρ O w (z2p env t) (f t))→∀ t,z02 ρ' O' w (z2p env' t) (f t))
 |none,o=>True
def HOk (ρ ρ':Rho) (O O':Nat→Prop) (h:List AO) (w:World):List (Option Nat)→List AO→Prop
 |[],[]=>True
 |s::σ,o::os=>OOk ρ ρ' O O' h w s o∧HOk ρ ρ' O O' h w σ os
 |_,_=>False
theorem HOk.nth {ρ ρ':Rho} {O O':Nat→Prop} {h:List AO} {w:World}:∀ {σ:List (Option Nat)} {os:List AO},HOk ρ ρ' O O' h w σ os→∀ i s,z2o σ i=some s→OOk ρ ρ' O O' h w s (z0s os i)
 |[],[],_,i,s,hs=>by simp [z2o] at hs
 |s0::σ,o::os,hk,i,s,hs=>by
  cases i with
  |zero=>simp [z2o] at hs; subst hs; exact hk.1
  |succ i=>exact HOk.nth hk.2 i s (by simpa [z2o] using hs)
 |[],_::_,hk,_,_,_=>hk.elim
 |_::_,[],hk,_,_,_=>hk.elim
theorem HOk.len {ρ ρ':Rho} {O O':Nat→Prop} {h:List AO} {w:World}:∀ {σ:List (Option Nat)} {os:List AO},HOk ρ ρ' O O' h w σ os→os.length=σ.length
 |[],[],_=>rfl
 |s0::σ,o::os,hk=>by simp [HOk.len hk.2]
 |[],_::_,hk=>hk.elim
 |_::_,[],hk=>hk.elim
theorem w1a {a b:LoopState} (h:u0k a b=true):a=b:=by cases a<;>cases b<;>first|rfl|cases h
theorem w08 {a b:Option Code} (h:u0j a b=true):a=b:=by
 cases a with
 |none=>cases b<;>first|rfl|cases h
 |some a=>
  cases b with
  |none=>cases a<;>cases h
  |some b=>
   cases a<;>cases b<;>first
    |rfl
    |cases h; done
    |(have:=Nat.eq_of_beq_eq_true h; subst this; rfl)
theorem y7c:∀ {a b:List Bool},y82 a b=true→a=b
 |[],[],_=>rfl
 |[],_::_,h=>by cases h
 |_::_,[],h=>by cases h
 |x::a,y::b,h=>by
  simp only [y82,Bool.and_eq_true,beq_iff_eq] at h
  rw [h.1,y7c h.2]
section
variable {P:Program} {ρ ρ':Rho} {O':Nat→Prop} {h:List AO} {w:World} {σ τ:List (Option Nat)} {L:List (Option AO)}
theorem w00 (c:w55 P ρ ρ' O' h w σ τ L) (env:List (Nat×AV)):∀ (ts:List (Nat×VT)) (cs:List Bool) (ws:List Val),v09 std h σ τ L env ts=some (cs,ws)→z1z cs=true→
  ∀ rest,(w4w std L ts (ws++rest)).2=rest∧∀ f:Nat→Value,(∀ t,z02 ρ (z0n ρ h) w (z2p env t) (f t))→∀ t,z02 ρ' O' w (z2p (w4w std L ts (ws++rest)).1 t) (f t):=by
 intro ts
 induction ts with
 |nil=>intro cs ws hf hc rest; simp only [v09] at hf; cases hf; exact ⟨rfl,fun f hff t=> .bot _⟩
 |cons kt ts ih=>
  obtain ⟨k,t⟩:=kt
  intro cs ws hf hc rest
  simp only [v09] at hf
  split at hf
  ·rename_i c1 v1 c2 v2 h1 h2
   cases hf
   obtain ⟨q1,q2⟩:=z2r hc
   have i1:=w0z c t _ c1 v1 h1 q1
   obtain ⟨a1,e1⟩:=i1 (v2++rest)
   obtain ⟨a2,e2⟩:=ih c2 v2 h2 q2 rest
   simp only [w4w,List.append_assoc]
   rw [a1]
   refine ⟨a2,fun f hff t=>?_⟩
   simp only [z2p]
   cases hb:Nat.beq k t with
   |true=>have:=Nat.eq_of_beq_eq_true hb; subst this; exact e1 _ (hff k)
   |false=>exact e2 f hff t
  ·cases hf
theorem w01 (c:w55 P ρ ρ' O' h w σ τ L):∀ (ts:List OT) (σ':List (Option Nat)) (Lp:List (Option AO)) (cs:List Bool) (ws:List Val),LOk h ts σ' Lp→y9z std h σ τ L ts σ'=some (cs,ws)→z1z cs=true→
  ∀ rest,(y5w std L Lp ts (ws++rest)).2=rest∧HOk ρ ρ' (z0n ρ h) O' h w σ' (y5w std L Lp ts (ws++rest)).1:=by
 intro ts
 induction ts with
 |nil=>
  intro σ' Lp cs ws hl hf hc rest
  cases σ' with
  |nil=>simp only [y9z] at hf; cases hf; cases Lp<;>exact ⟨rfl,trivial⟩
  |cons _ _=>simp only [y9z] at hf; cases hf
 |cons t ts ih=>
  intro σ' Lp cs ws hl hf hc rest
  cases σ' with
  |nil=>cases t<;>(simp only [y9z] at hf; cases hf)
  |cons s σ'=>
   cases t with
   |row ck=>
    cases s with
    |some a=>
     simp only [y9z] at hf
     match Lp,hl with
     |some (.row es)::Lp,hl=>
      obtain ⟨a1,a2⟩:=ih σ' Lp cs ws hl.2 hf hc rest
      exact ⟨a1, .inr (.inl ⟨es,rfl,hl.1⟩),a2⟩
    |none=>
     simp only [y9z] at hf
     match Lp,hl with
     |some (.row [])::Lp,hl=>
      obtain ⟨a1,a2⟩:=ih σ' Lp cs ws hl hf hc rest
      exact ⟨a1,trivial,a2⟩
   |map=>
    cases s with
    |some a=>
     simp only [y9z] at hf
     match Lp,hl with
     |some (.map es)::Lp,hl=>
      obtain ⟨a1,a2⟩:=ih σ' Lp cs ws hl.2 hf hc rest
      exact ⟨a1, .inr (.inr (.inl ⟨es,rfl,hl.1⟩)),a2⟩
    |none=>
     match Lp,hl with
     |_,hl=>simp [LOk] at hl
   |dead=>
    have hf':y9z std h σ τ L ts σ'=some (cs,ws):=by cases s<;>simpa only [y9z] using hf
    have:∃ Lp',Lp=none::Lp'∧LOk h ts σ' Lp':=by
     match s,Lp,hl with
     |some _,none::Lp',hl=>exact ⟨Lp',rfl,hl⟩
     |none,none::Lp',hl=>exact ⟨Lp',rfl,hl⟩
    obtain ⟨Lp',rfl,hl'⟩:=this
    obtain ⟨a1,a2⟩:=ih σ' Lp' cs ws hl' hf' hc rest
    exact ⟨a1,by cases s; exact trivial; exact .inl rfl,a2⟩
   |box l=>
    cases s with
    |none=>simp only [y9z] at hf; cases hf
    |some a=>
     simp only [y9z] at hf
     split at hf
     ·rename_i cells hcells
      split at hf
      ·rename_i c1 v1 c2 v2 h1 h2
       cases hf
       obtain ⟨q1,q2⟩:=z2r hc
       match Lp,hl with
       |none::Lp,hl=>
        obtain ⟨b1,b2,b3⟩:=z48 c l cells c1 v1 h1 q1 (v2++rest)
        obtain ⟨a1,a2⟩:=ih σ' Lp c2 v2 hl h2 q2 rest
        simp only [y5w,v4c,List.append_assoc]
        rw [b1]
        exact ⟨a1, .inr (.inr (.inr (.inl ⟨cells,_,hcells,rfl,b2,b3⟩))),a2⟩
      ·cases hf
     ·cases hf
   |loop st pd g pos nt env=>
    cases s with
    |none=>simp only [y9z] at hf; cases hf
    |some a=>
     simp only [y9z] at hf
     split at hf
     ·rename_i st' pd' g' pos' nt' env' hob
      cases hb:u0k st st'&&(u0j pd pd'&&(Nat.beq g g'&&(y82 pos pos'&&Nat.beq nt nt'))) with
      |false=>rw [hb] at hf; cases hf
      |true=>
       rw [hb] at hf; simp only [cond_true] at hf
       simp only [Bool.and_eq_true] at hb
       obtain ⟨e1,e2,e3,e4,e5⟩:=hb
       have e1:=w1a e1
       have e2:=w08 e2
       have e3:=Nat.eq_of_beq_eq_true e3
       have e4:=y7c e4
       have e5:=Nat.eq_of_beq_eq_true e5
       subst e1; subst e2; subst e3; subst e4; subst e5
       split at hf
       ·rename_i c1 v1 c2 v2 h1 h2
        cases hf
        obtain ⟨q1,q2⟩:=z2r hc
        match Lp,hl with
        |none::Lp,hl=>
         obtain ⟨b1,b2⟩:=w00 c env' env c1 v1 h1 q1 (v2++rest)
         obtain ⟨a1,a2⟩:=ih σ' Lp c2 v2 hl h2 q2 rest
         simp only [y5w,v4c,List.append_assoc]
         rw [b1]
         exact ⟨a1, .inr (.inr (.inr (.inr ⟨st,pd,g,pos,nt,env',_,hob,rfl,b2⟩))),a2⟩
       ·cases hf
     ·cases hf
theorem z7w {a:Nat}:∀ {σ:List (Option Nat)} {i:Nat},z2o σ i=some (some a)→y1l σ a=true
 |[],i,h=>by simp [z2o] at h
 |none::r,i,h=>by
  cases i with
  |zero=>simp [z2o] at h
  |succ i=>exact z7w (σ:=r) (i:=i) (by simpa [z2o] using h)
 |some b::r,i,h=>by
  cases i with
  |zero=>simp [z2o] at h; subst h; simp [y1l]
  |succ i=>simp only [y1l,z7w (σ:=r) (i:=i) (by simpa [z2o] using h),Bool.or_true]
theorem z89:∀ {σ:List (Option Nat)},w0e σ=true→∀ {i j a:Nat},z2o σ i=some (some a)→z2o σ j=some (some a)→i=j
 |[],_,i,j,a,h1,_=>by simp [z2o] at h1
 |none::r,h,i,j,a,h1,h2=>by
  cases i with
  |zero=>simp [z2o] at h1
  |succ i=>
   cases j with
   |zero=>simp [z2o] at h2
   |succ j=>rw [z89 (σ:=r) h (i:=i) (j:=j) (by simpa [z2o] using h1) (by simpa [z2o] using h2)]
 |some b::r,h,i,j,a,h1,h2=>by
  simp only [w0e,Bool.and_eq_true,Bool.not_eq_true'] at h
  cases i with
  |zero=>
   cases j with
   |zero=>rfl
   |succ j=>
    simp [z2o] at h1; subst h1
    have:=z7w (σ:=r) (i:=j) (by simpa [z2o] using h2)
    rw [h.1] at this; cases this
  |succ i=>
   cases j with
   |zero=>
    simp [z2o] at h2; subst h2
    have:=z7w (σ:=r) (i:=i) (by simpa [z2o] using h1)
    rw [h.1] at this; cases this
   |succ j=>rw [z89 (σ:=r) h.2 (i:=i) (j:=j) (by simpa [z2o] using h1) (by simpa [z2o] using h2)]
theorem y0v:∀ {n k:Nat} {σ:List (Option Nat)},x1p k n σ=true→∀ i,i<n→z2o σ i=some (some (k+i))
 |0,k,σ,_,i,hi=>by omega
 |n+1,k,[],h,i,hi=>by cases h
 |n+1,k,none::r,h,i,hi=>by cases h
 |n+1,k,some a::r,h,i,hi=>by
  simp only [x1p,Bool.and_eq_true] at h
  cases i with
  |zero=>have:=Nat.eq_of_beq_eq_true h.1; simp [z2o,this]
  |succ i=>
   have:=y0v h.2 i (by omega)
   simp only [z2o]; rw [this]; congr 2; omega
def Rho.via (ρ:Rho) (σ:List (Option Nat)):Rho:=⟨fun i=>match z2o σ i with|some (some a)=>ρ a|_=>none,ρ.fr⟩
def y24 (ρ:Rho) (h:List AO) (σ:List (Option Nat)) (b:Nat):Prop:=ρ.fr b∨∃ i a M,z2o σ i=some (some a)∧(z0s h a).live=true∧ρ a=some M∧M.blk=b
theorem z3z {i:Nat} {M:Loc} (hv:(ρ.via σ) i=some M):∃ a,z2o σ i=some (some a)∧ρ a=some M:=by
 have hv':(match z2o σ i with|some (some a)=>ρ a|_=>none)=some M:=hv
 split at hv'
 ·rename_i a ha; exact ⟨a,ha,hv'⟩
 ·cases hv'
theorem u0i {τ:List (Option Nat)} (hr:z0e P ρ h w):w55 P ρ (ρ.via σ) (y24 ρ h τ) h w σ τ L where
 hr:=hr
 loc:=fun i a hi=>by show (match z2o σ i with|some (some a)=>ρ a|_=>none)=ρ a; rw [hi]
 sub:=fun b hb=>by
  rcases hb with hf|⟨i,a,M,h1,h2,h3,rfl⟩
  ·exact .inl hf
  ·exact .inr ⟨a,M,h3,h2,rfl⟩
 out:=fun a M hM hl hm ho=>by
  rcases ho with hf|⟨i,a',M',h1,h2,h3,h4⟩
  ·exact hr.sep a M hM hl hf
  ·have:=hr.inj a' a M' M h3 hM h2 hl h4
   subst this
   rw [z7w h1] at hm; cases hm
theorem w5v.live {h':List AO} {a:Nat} {es:List (List D)} (h:w5v h' a es):(z0s h' a).live=true:=by
 rcases h with h|⟨es0,h,_⟩<;>rw [h]<;>rfl
theorem y2u:∀ {es0:List (List AV)} {es:List (List D)},y6g es0=some es→es0=z75 es
 |[],es,h=>by simp [y6g] at h; subst h; rfl
 |x::r,es,h=>by
  simp only [y6g] at h
  split at h
  ·rename_i d l h1 h2
   cases h
   rw [z4l h1,y2u h2]; rfl
  ·cases h
theorem OOk.live {O:Nat→Prop} {a:Nat} {o:AO} (hk:OOk ρ ρ' O O' h w (some a) o) (hl:o.live=true):(z0s h a).live=true:=by
 rcases hk with rfl|⟨es,rfl,hr⟩|⟨es,rfl,hr⟩|⟨cells,ys,hr,rfl,_⟩|⟨st,pd,g,pos,nt,env,env',hr,rfl,_⟩
 ·cases hl
 ·exact hr.live
 ·rw [hr]; rfl
 ·rw [hr]; rfl
 ·rw [hr]; rfl
theorem w23 (hr:z0e P ρ h w) {τ:List (Option Nat)} (hinj:w0e τ=true) {h':List AO} (hτ:∀ i a,z2o σ i=some (some a)→(z0s h' i).live=true→z2o τ i=some (some a)) (hk:HOk ρ (ρ.via σ) (z0n ρ h) (y24 ρ h τ) h w σ h'):z0e P (ρ.via σ) h' w∧∀ b,z0n (ρ.via σ) h' b→y24 ρ h τ b:=by
 have hown:∀ b,z0n (ρ.via σ) h' b→y24 ρ h τ b:=by
  intro b hb
  rcases hb with hf|⟨i,M,hM,hl,rfl⟩
  ·exact .inl hf
  ·obtain ⟨a,ha,hMa⟩:=z3z hM
   exact .inr ⟨i,a,M,hτ i a ha hl,(hk.nth i _ ha).live hl,hMa,rfl⟩
 have kp:z5l (z0n ρ h) (z0n (ρ.via σ) h') w w:=⟨Nat.le_refl _,fun _ _ _=>rfl,fun b _ hb=>(u0i (σ:=σ) (τ:=τ) (L:=[]) hr).sub b (hown b hb),fun _ _ h=>h,z05.refl _⟩
 have kp2:z5l (y24 ρ h τ) (z0n (ρ.via σ) h') w w:=⟨Nat.le_refl _,fun _ _ _=>rfl,fun b _ hb=>hown b hb,fun _ _ h=>h,z05.refl _⟩
 refine ⟨⟨fun i M hM=>?_,fun i j M M' h1 h2 l1 l2 hb=>?_,fun b hf=>hr.fr b hf,fun i M hM hl hf=>?_⟩,hown⟩
 ·obtain ⟨a,ha,hMa⟩:=z3z hM
  obtain ⟨o1,o2⟩:=hr.obj a M hMa
  refine ⟨o1,?_⟩
  rcases hk.nth i _ ha with e|⟨es,e,hrow⟩|⟨es,e,hmap⟩|⟨cells,ys,hbox,e,hlen,hys⟩|⟨st,pd,g,pos,nt,env,env',hlp,e,henv⟩
  ·rw [e]; trivial
  ·rw [e]
   rcases hrow with hrow|⟨es0,hrow,hdd⟩
   ·rw [hrow] at o2
    obtain ⟨hz,c,t,hc,hl,hj⟩:=o2
    exact ⟨hz,c,t,hc,hl,fun i r j x hi hx=>let ⟨v,hv,h1,hvr⟩:=hj i r j x hi hx; ⟨v,hv,h1,hvr.keep kp⟩⟩
   ·rw [hrow,y2u hdd] at o2
    obtain ⟨hz,c,t,hc,hl,hj⟩:=o2
    refine ⟨hz,c,t,hc,fun i r hi=>?_,fun i r j x hi hx=>?_⟩
    ·have:=hl i (toA r) (by rw [z41,hi]; rfl)
     rwa [z1j] at this
    ·obtain ⟨v,hv,h1,hvr⟩:=hj i (toA r) j (.d x) (by rw [z41,hi]; rfl) (by rw [z2l,hx]; rfl)
     cases hvr with|d hvr=>exact ⟨v,hv,h1,hvr.keep kp⟩
  ·rw [e]; rw [hmap] at o2
   obtain ⟨en,clk,hc,hl,hj⟩:=o2
   exact ⟨en,clk,hc,hl,fun i k x hi=>let ⟨e,he,h1,h2⟩:=hj i k x hi; ⟨e,he,h1.keep kp,h2.keep kp⟩⟩
  ·rw [e]; rw [hbox] at o2
   obtain ⟨c,t,hc,hj⟩:=o2
   refine ⟨c,t,hc,fun j y hy=>?_⟩
   have hjl:j<cells.length:=by rw [←hlen]; exact (List.getElem?_eq_some_iff.1 hy).1
   obtain ⟨v,hv,_⟩:=hj j _ (List.getElem?_eq_getElem hjl)
   have:=hys (fun j=>(c[M.base+j]?).getD undef) (fun j x hx=>by
    obtain ⟨u,hu,hur⟩:=hj j x hx
    simp only [hu,Option.getD_some]; exact hur) j y hy
   simp only [hv,Option.getD_some] at this
   exact ⟨v,hv,this.keep kp2 (fun _ _ h=>h)⟩
  ·rw [e]; rw [hlp] at o2
   obtain ⟨x,ps,asg,body,hcd,tm,ds,f,hc,hl,hj⟩:=o2
   exact ⟨x,ps,asg,body,hcd,tm,ds,f,hc,hl,fun t=>(henv (fun t=>tm.getD t undef) hj t).keep kp2 (fun _ _ h=>h)⟩
 ·obtain ⟨a,ha,hMa⟩:=z3z h1
  obtain ⟨a',ha',hMa'⟩:=z3z h2
  have:=hr.inj a a' M M' hMa hMa' ((hk.nth i _ ha).live l1) ((hk.nth j _ ha').live l2) hb
  subst this
  exact z89 hinj (hτ _ _ ha l1) (hτ _ _ ha' l2)
 ·obtain ⟨a,ha,hMa⟩:=z3z hM
  exact hr.sep a M hMa ((hk.nth i _ ha).live hl) hf
theorem y6y:∀ {ts:List OT} {σ:List (Option Nat)} {i a:Nat},z2o σ i=some (some a)→i<ts.length→ts[i]?≠some .dead→z2o (y3k ts σ) i=some (some a)
 |[],_,i,a,_,h,_=>by simp at h
 |t::ts,[],i,a,h,_,_=>by simp [z2o] at h
 |t::ts,s::σ,0,a,h,_,hd=>by
  simp [z2o] at h; subst h
  cases t<;>first|exact absurd rfl hd|rfl
 |t::ts,s::σ,i+1,a,h,hl,hd=>by
  have:=y6y (ts:=ts) (σ:=σ) (i:=i) (a:=a) (by simpa [z2o] using h) (by simpa using hl) (by simpa using hd)
  cases t<;>exact this
theorem x17:∀ (ts:List OT) (vs:List Val) (i:Nat),ts[i]?=some .dead→z2o (z7f ts vs).1 i=some none
 |[],vs,i,h=>by simp at h
 |t::ts,vs,0,h=>by
  simp at h; subst h; simp [z7f,z2o]
 |t::ts,vs,i+1,h=>by
  have ih:=fun vs=>x17 ts vs i (by simpa using h)
  cases t<;>cases vs<;>(try (rename_i v vs; cases v))<;>simp only [z7f,z2o]<;>exact ih _
theorem x16 (p:Prim) (L:List (Option AO)):∀ (os:List (Option AO)) (ts:List OT) (vs:List Val) (i:Nat),ts[i]?=some .dead→z2o os i=some none→z0s (y5w p L os ts vs).1 i= .dead
 |[],ts,vs,i,h,h2=>by simp [z2o] at h2
 |o::os,[],vs,i,h,h2=>by simp at h
 |o::os,t::ts,vs,0,h,h2=>by
  simp at h; subst h
  simp [z2o] at h2; subst h2
  rfl
 |o::os,t::ts,vs,i+1,h,h2=>by
  simp only [y5w,z0s]
  exact x16 p L os ts _ i (by simpa using h) (by simpa [z2o] using h2)
theorem x55 (p:Prim) (L:List (Option AO)):∀ (os:List (Option AO)) (ts:List OT) (vs:List Val),(y5w p L os ts vs).1.length≤ts.length
 |[],ts,vs=>by simp [y5w]
 |o::os,[],vs=>by simp [y5w]
 |o::os,t::ts,vs=>by
  simp only [y5w,List.length_cons]
  exact Nat.succ_le_succ (x55 p L os ts _)
theorem w9n {n : Nat} {t : ST} {s : AS} {cs : List Bool} {vs : List Val} (hf : u0h std n t σ s = some (cs, vs)) (hc : z1z cs = true) : y3q n s (w1d std t vs) ∧ n ≤ (w1d std t vs).heap.length := by
  unfold u0h at hf
  cases hb : Nat.beq s.nt t.nt && (w0e (y3k t.heap σ) && x1p 0 n σ) with
  | false => rw [hb] at hf; cases hf
  | true =>
    rw [hb] at hf; simp only [cond_true] at hf
    simp only [Bool.and_eq_true] at hb
    obtain ⟨hnt, hinj, hkeep⟩ := hb
    have hnt := Nat.eq_of_beq_eq_true hnt
    split at hf
    · rename_i v1 h1
      split at hf
      · rename_i c2 v2 c3 v3 h2 h3
        cases hf
        obtain ⟨q2, q3⟩ := z2r hc
        obtain ⟨a1, a2, a3⟩ := w02 s.heap t.heap σ v1 h1 (v2 ++ v3)
        have main : ∀ (P : Program) (ρ : Rho) (w : World), z0e P ρ s.heap w → (y5w std (z7f t.heap (v1 ++ (v2 ++ v3))).1 (z7f t.heap (v1 ++ (v2 ++ v3))).1 t.heap (z7f t.heap (v1 ++ (v2 ++ v3))).2).2 = v3 ∧
            HOk ρ (ρ.via σ) (z0n ρ s.heap) (y24 ρ s.heap (y3k t.heap σ)) s.heap w σ (w1d std t (v1 ++ (v2 ++ v3))).heap ∧
            ∀ f : Nat → Value, (∀ t, z02 ρ (z0n ρ s.heap) w (z2p s.env t) (f t)) → ∀ t', z02 (ρ.via σ) (y24 ρ s.heap (y3k t.heap σ)) w (z2p (w1d std t (v1 ++ (v2 ++ v3))).env t') (f t') := by
          intro P ρ w hr
          rw [← a3] at h2 h3
          have cx := u0i (P := P) (σ := σ) (τ := y3k t.heap σ) (L := (z7f t.heap (v1 ++ (v2 ++ v3))).1) hr
          obtain ⟨b1, b2⟩ := w01 cx t.heap σ (z7f t.heap (v1 ++ (v2 ++ v3))).1 c2 v2 a2 h2 q2 v3
          rw [a1]
          refine ⟨b1, ?_, ?_⟩
          · show HOk _ _ _ _ _ _ _ (y5w std _ _ t.heap (z7f t.heap (v1 ++ (v2 ++ v3))).2).1
            rw [a1]; exact b2
          · have := (w00 cx s.env t.env c3 v3 h3 q3 []).2
            rw [List.append_nil] at this
            show ∀ f : Nat → Value, _ → ∀ t', z02 _ _ _ (z2p (w4w std _ t.env (y5w std _ _ t.heap (z7f t.heap (v1 ++ (v2 ++ v3))).2).2).1 t') (f t')
            rw [a1, b1]; exact this
        have hlen : (w1d std t (v1 ++ (v2 ++ v3))).heap.length = σ.length := by
          have hr0 : z0e default ⟨fun _ => none, fun _ => False⟩ s.heap default :=
            { obj := fun _ _ h => by cases h
              inj := fun _ _ _ _ h => by cases h
              fr := fun _ h => h.elim
              sep := fun _ _ h => by cases h }
          exact (main _ _ _ hr0).2.1.len
        have hnl : n ≤ σ.length := by
          cases n with
          | zero => omega
          | succ n =>
            have := y0v hkeep n (by omega)
            rw [z19] at this
            have := (List.getElem?_eq_some_iff.1 this).1
            omega
        refine ⟨⟨fun {P} ρ tm w hs => ?_⟩, by rw [hlen]; exact hnl⟩
        obtain ⟨m1, m2, m3⟩ := main P ρ w hs.heap
        obtain ⟨v1', v2'⟩ := w23 hs.heap hinj (fun i a hi hl => by
          have hlt : i < t.heap.length := by
            have h1 : i < (w1d std t (v1 ++ (v2 ++ v3))).heap.length := by
              refine Nat.lt_of_not_le fun hge => ?_
              rw [x3t _ _ hge] at hl; cases hl
            exact Nat.lt_of_lt_of_le h1 (x55 _ _ _ _ _)
          refine y6y hi hlt fun hd => ?_
          have : z0s (w1d std t (v1 ++ (v2 ++ v3))).heap i = .dead := x16 _ _ _ _ _ _ hd (x17 _ _ _ hd)
          rw [this] at hl; cases hl) m2
        have kp2 : z5l (y24 ρ s.heap (y3k t.heap σ)) (z0n (ρ.via σ) (w1d std t (v1 ++ (v2 ++ v3))).heap) w w := ⟨Nat.le_refl _, fun _ _ _ => rfl, fun b _ hb => v2' b hb, fun _ _ h => h, z05.refl _⟩
        have hrho : ∀ id, id < n → (ρ.via σ) id = ρ id := fun id hid => by
          have := y0v hkeep id hid
          rw [Nat.zero_add] at this
          show (match z2o σ id with | some (some a) => ρ a | _ => none) = ρ id
          rw [this]
        refine ⟨ρ.via σ, ⟨v1', fun t' => (m3 (fun t => tm.getD t undef) hs.env t').keep kp2 (fun _ _ h => h), hs.size.trans hnt, fun id hid => ?_⟩, hnt.symm, ?_, hrho⟩
        · rw [hlen]
          cases hq : (ρ.via σ) id with
          | none => exact absurd hq hid
          | some M =>
            obtain ⟨a, ha, _⟩ := z3z hq
            rw [z19] at ha
            exact (List.getElem?_eq_some_iff.1 ha).1
        · exact { os := rfl, tape := rfl, output := rfl, keep := ⟨Nat.le_refl _, fun _ _ _ => rfl, fun b _ hb => (u0i (σ := σ) (τ := y3k t.heap σ) (L := []) hs.heap).sub b (v2' b hb), fun _ _ h => h, z05.refl _⟩, rho := fun id hid => hrho id hid, fr := rfl, frs := fun _ _ => rfl }
      · cases hf
    · cases hf
end
end Go.Am
end
section
namespace Go.Am
def z6l {S R:Type} (b:S→Option (S⊕R)):Nat→S→Option R
 |0,_=>none
 |n+1,s=>match b s with
  |some (.inl s')=>z6l b n s'
  |some (.inr r)=>some r
  |none=>none
open Classical in
noncomputable def z4n {S R:Type} (b:S→Option (S⊕R)) (s:S):Option R:=
 if h:∃ r n,z6l b n s=some r then some h.choose else none
theorem y64 {S R:Type} {b:S→Option (S⊕R)}:∀ {n:Nat} {s:S} {r:R},z6l b n s=some r→∀ m,n≤m→z6l b m s=some r:=by
 intro n
 induction n with
 |zero=>intro s r h; simp [z6l] at h
 |succ n ih=>
  intro s r h m hm
  obtain ⟨m,rfl⟩:∃ k,m=k+1:=⟨m - 1,by omega⟩
  simp only [z6l] at h⊢
  split at h
  ·exact ih h m (by omega)
  ·exact h
  ·cases h
theorem y1o {S R:Type} {b:S→Option (S⊕R)} {s:S} {r:R} (h:z4n b s=some r):∃ n,z6l b n s=some r:=by
 unfold z4n at h
 split at h
 ·rename_i hx
  cases h
  exact hx.choose_spec
 ·cases h
theorem y8v {S R:Type} {b:S→Option (S⊕R)} {s:S} {r:R} {n:Nat} (h:z6l b n s=some r):z4n b s=some r:=by
 have hx:∃ r n,z6l b n s=some r:=⟨r,n,h⟩
 unfold z4n
 rw [dif_pos hx]
 obtain ⟨m,hm⟩:=hx.choose_spec
 have a:=y64 h (max n m) (Nat.le_max_left _ _)
 have b':=y64 hm (max n m) (Nat.le_max_right _ _)
 rw [a] at b'; exact b'.symm
theorem z0h {S R:Type} (b:S→Option (S⊕R)) (s:S):z4n b s=match b s with
  |some (.inl s')=>z4n b s'
  |some (.inr r)=>some r
  |none=>none:=by
 cases hb:b s with
 |none=>
  cases hq:z4n b s with
  |none=>rfl
  |some r=>
   obtain ⟨n,hn⟩:=y1o hq
   cases n with
   |zero=>simp [z6l] at hn
   |succ n=>simp [z6l,hb] at hn
 |some x=>
  cases x with
  |inr r=>exact y8v (n:=1) (by simp [z6l,hb])
  |inl s'=>
   simp only
   cases hq:z4n b s' with
   |some r=>
    obtain ⟨n,hn⟩:=y1o hq
    exact y8v (n:=n+1) (by simp [z6l,hb,hn])
   |none=>
    cases hq2:z4n b s with
    |none=>rfl
    |some r=>
     obtain ⟨n,hn⟩:=y1o hq2
     cases n with
     |zero=>simp [z6l] at hn
     |succ n=>
      simp [z6l,hb] at hn
      rw [y8v hn] at hq; cases hq
mutual
def u1f:VT→List Sc
 | .int _=>[.int]
 | .bool=>[.bool]
 | .str=>[.str]
 | .list _=>[.rows]
 | .agg l=>x03 l
 | .ref l=>x03 l
 | .ptr _ _=>[.nat]
 | .sl _ _=>[.nat, .nat]
 | .slc _ _=>[.nat, .nat, .nat]
 | .clo _ fs cs=>x03 fs++x03 cs
 | .tuple l=>x03 l
 |_=>[]
def x03:List VT→List Sc
 |[]=>[]
 |t::ts=>u1f t++x03 ts
end
def v7k:List (Nat×VT)→List Sc
 |[]=>[]
 |(_,t)::ts=>u1f t++v7k ts
def v1k:List OT→List Sc
 |[]=>[]
 | .row _::t=> .rows::v1k t
 | .map::t=> .map::v1k t
 |_::t=>v1k t
def v1j:List OT→List Sc
 |[]=>[]
 | .box l::t=>x03 l++v1j t
 | .loop _ _ _ _ _ env::t=>v7k env++v1j t
 |_::t=>v1j t
def ST.scs (t:ST):List Sc:=v1k t.heap++(v1j t.heap++v7k t.env)
def y8u:List OT→List (List CK)
 |[]=>[]
 | .row ck::t=>ck::y8u t
 |_::t=>[]::y8u t
def y3m (p:Prim) (t:ST) (x:Tup t.scs):SS:=⟨w1d p t (y5u t.scs x),y8u t.heap⟩
mutual
def v5o:VT→AV→List (Nat×Nat)
 | .bptr i _, .bptr a _=>[(i,a)]
 | .ptr i _, .ptr a _ _=>[(i,a)]
 | .vec i _, .slice a _ _ _ _=>[(i,a)]
 | .full i _, .slice a _ _ _ _=>[(i,a)]
 | .sl i _, .slice a _ _ _ _=>[(i,a)]
 | .slc i _, .slice a _ _ _ _=>[(i,a)]
 | .map i, .map a=>[(i,a)]
 | .yld i, .yld a=>[(i,a)]
 | .agg l, .agg xs=>y3a l xs
 | .tuple l, .tuple xs=>y3a l xs
 | .clo _ fs cs, .clo _ fs' cs'=>y3a fs fs'++y3a cs cs'
 |_,_=>[]
def y3a:List VT→List AV→List (Nat×Nat)
 |t::ts,x::xs=>v5o t x++y3a ts xs
 |_,_=>[]
end
def v0r (env:List (Nat×AV)):List (Nat×VT)→List (Nat×Nat)
 |[]=>[]
 |(k,t)::ts=>v5o t (z2p env k)++v0r env ts
def v8e:List (Nat×Nat)→Nat→Option Nat
 |[],_=>none
 |(i,a)::r,j=>bif Nat.beq i j then some a else v8e r j
def u0p (h:List AO) (a:Nat):OT→List (Nat×Nat)
 | .box l=>match z0s h a with
  | .box cells=>y3a l cells
  |_=>[]
 | .loop _ _ _ _ _ env=>match z0s h a with
  | .loop _ _ _ _ _ env'=>v0r env' env
  |_=>[]
 |_=>[]
def v0q (h:List AO):Nat→List OT→List (Nat×Nat)→List (Nat×Nat)
 |_,[],b=>b
 |i,t::ts,b=>match v8e b i with
  |some a=>v0q h (i+1) ts (b++u0p h a t)
  |none=>v0q h (i+1) ts b
def w5i (h:List AO) (ts:List OT):Nat→List (Nat×Nat)→List (Nat×Nat)
 |0,b=>b
 |n+1,b=>w5i h ts n (v0q h 0 ts b)
def w6p:Nat→List (Nat×Nat)
 |0=>[]
 |n+1=>(n,n)::w6p n
def w3e (b:List (Nat×Nat)):Nat→List OT→List (Option Nat)
 |_,[]=>[]
 |i,_::ts=>v8e b i::w3e b (i+1) ts
def w9p (n:Nat) (t:ST) (s:AS):List (Option Nat):=w3e (w5i s.heap t.heap 2 (w6p n++v0r s.env t.env)) 0 t.heap
def w2x (p:Prim) (n:Nat) (t:ST) (s:AS):Option (List Bool×Tup t.scs):=
 match u0h p n t (w9p n t s) s with
 |some (cs,vs)=>match w8d t.scs vs with
  |some x=>some (cs,x)
  |none=>none
 |none=>none
theorem y2n {n:Nat} {t:ST} {s:AS} {cs:List Bool} {x:Tup t.scs} (h:w2x std n t s=some (cs,x)) (hc:z1z cs=true):y3q n s (y3m std t x).s∧n≤(y3m std t x).s.heap.length:=by
 unfold w2x at h
 split at h
 ·rename_i cs' vs hf
  split at h
  ·rename_i x' hx
   cases h
   have:=w9n hf hc
   show y3q n s (w1d std t (y5u t.scs x))∧_≤(w1d std t (y5u t.scs x)).heap.length
   rw [y4g hx]; exact this
  ·cases h
 ·cases h
def y2l (A:Alg) (β:Type):List Bool→A.Ω β→A.Ω β
 |[],k=>k
 |c::cs,k=>A.need β c (y2l A β cs k)
theorem z1r {β:Type} {b:β}:∀ {cs:List Bool} {k:Option β},y2l opt β cs k=some b→z1z cs=true∧k=some b
 |[],k,h=>⟨rfl,h⟩
 |c::cs,k,h=>by
  obtain ⟨hc,h⟩:=z6i h
  obtain ⟨h1,h2⟩:=z1r (cs:=cs) h
  exact ⟨by simp [z1z,hc,h1],h2⟩
def v37:AX→AX→Bool
 | .normal, .normal=>true
 | .ret, .ret=>true
 | .exit i, .exit j=>Nat.beq i j
 |_,_=>false
theorem x15 {a b:AX} (h:v37 a b=true):a=b:=by
 cases a<;>cases b<;>first
  |rfl
  |cases h; done
  |(have:=Nat.eq_of_beq_eq_true h; subst this; rfl)
abbrev x8u:=List (AX×ST)
def scss:x8u→List (List Sc)
 |[]=>[]
 |o::os=>o.2.scs::scss os
def z9b (p:Prim) (n:Nat):(os:x8u)→AX→AS→Option (List Bool×STup (scss os))
 |[],_,_=>none
 |[o],e,s=>bif v37 o.1 e then w2x p n o.2 s else none
 |o::o'::os,e,s=>match (bif v37 o.1 e then w2x p n o.2 s else none:Option (List Bool×Tup o.2.scs)) with
  |some (cs,x)=>some (cs, .inl x)
  |none=>match z9b p n (o'::os) e s with
   |some (cs,y)=>some (cs, .inr y)
   |none=>none
def z2k (p:Prim):(os:x8u)→STup (scss os)→AX×SS
 |[],y=>Empty.elim y
 |[o],x=>(o.1,y3m p o.2 x)
 |o::o'::os, .inl x=>(o.1,y3m p o.2 x)
 |o::o'::os, .inr y=>z2k p (o'::os) y
theorem z9y {n:Nat}:∀ {os:x8u} {e:AX} {s:AS} {cs:List Bool} {y:STup (scss os)},z9b std n os e s=some (cs,y)→z1z cs=true→(z2k std os y).1=e∧y3q n s (z2k std os y).2.s∧n≤(z2k std os y).2.s.heap.length
 |[],e,s,cs,y,h,hc=>by cases h
 |[o],e,s,cs,y,h,hc=>by
  simp only [z9b] at h
  cases hb:v37 o.1 e with
  |false=>rw [hb] at h; cases h
  |true=>
   rw [hb] at h
   exact ⟨x15 hb,y2n h hc⟩
 |o::o'::os,e,s,cs,y,h,hc=>by
  simp only [z9b] at h
  split at h
  ·rename_i cs' x hx
   cases h
   cases hb:v37 o.1 e with
   |false=>rw [hb] at hx; cases hx
   |true=>
    rw [hb] at hx
    exact ⟨x15 hb,y2n hx hc⟩
  ·split at h
   ·rename_i cs' y' hy
    cases h
    exact z9y (os:=o'::os) (y:=y') hy hc
   ·cases h
def x2v (A:Alg) (β:Type) (p:Prim):(os:x8u)→Option (STup (scss os))→(AX→SS→A.Ω β)→A.Ω β
 |[],_,_=>A.no β 81
 |[o],x,k=>A.bnd _ β x fun y=>k o.1 (y3m p o.2 y)
 |o::o'::os,x,k=>A.alt _ _ β x (fun y=>k o.1 (y3m p o.2 y)) (fun z=>x2v A β p (o'::os) (some z) k)
theorem z56 {β:Type} {b:β}:∀ {os:x8u} {x:Option (STup (scss os))} {k:AX→SS→Option β},x2v opt β std os x k=some b→∃ y,x=some y∧k (z2k std os y).1 (z2k std os y).2=some b
 |[],x,k,h=>by cases h
 |[o],x,k,h=>by
  obtain ⟨y,h1,h2⟩:=w5h h
  exact ⟨y,h1,h2⟩
 |o::o'::os,x,k,h=>by
  simp only [x2v,opt] at h
  cases x with
  |none=>cases h
  |some z=>
   cases z with
   |inl y=>exact ⟨.inl y,rfl,h⟩
   |inr y=>
    obtain ⟨y1,e,h2⟩:=z56 (os:=o'::os) (x:=some y) (k:=k) h
    cases e
    exact ⟨.inr y,rfl,h2⟩
structure y9x where
 head:ST
 outs:x8u
def x5n (A:Alg) (p:Prim) (rec:x2y A) (n g:Nat) (pos:List Bool) (c:Code) (a:y9x) (x:Tup a.head.scs):A.Ω (Tup a.head.scs⊕STup (scss a.outs)):=
 rec _ n g (false::pos) c (y3m p a.head x) fun e s=>match e with
  | .normal=>match w2x p n a.head s.s with
   |some (cs,x')=>y2l A _ cs (A.ret _ (.inl x'))
   |none=>A.no _ 82
  |e=>match z9b p n a.outs e s.s with
   |some (cs,y)=>y2l A _ cs (A.ret _ (.inr y))
   |none=>A.no _ 83
noncomputable def w8r (A:Alg) (p:Prim) (rec:x2y A) (n g:Nat) (pos:List Bool) (c:Code) (a:y9x) (β:Type) (ss:SS) (k:AX→SS→A.Ω β):A.Ω β:=
 match w2x p n a.head ss.s with
 |some (cs,x)=>y2l A β cs (x2v A β p a.outs (z4n (fun x=>A.run _ (x5n A p rec n g pos c a x)) x) k)
 |none=>A.no β 84
section
variable {P:Program}
theorem z7c.seen {n:Nat} {c:Code} {s:AS} {e0:AX} {s1 s2:AS} (h:z7c P n c s (fun e' s'=>e'=e0∧s'=s1)) (hv:y3q n s1 s2):z7c P n c s (fun e' s'=>e'=e0∧s'=s2):=
 y10 (h.mono fun e' s' hq=>by obtain ⟨rfl,rfl⟩:=hq; exact ⟨_,hv,rfl,rfl⟩)
theorem w32 {rec:x2y opt} (hr:x2z P rec) {n g:Nat} {pos:List Bool} {c:Code} (hcd:z4h P g pos=some (.loop c)) {a:y9x} {β:Type} {ss:SS} {k:AX→SS→Option β} {b:β} (hn:n≤ss.s.heap.length)
  (h:w8r opt std rec n g pos c a β ss k=some b):∃ e ss',n≤ss'.s.heap.length∧z7c P n (.loop c) ss.s (fun e' s2=>e'=e∧s2=ss'.s)∧k e ss'=some b:=by
 unfold w8r at h
 split at h
 ·rename_i cs x hx
  obtain ⟨hc,h⟩:=z1r h
  obtain ⟨y,hy,h⟩:=z56 h
  obtain ⟨v1,v2⟩:=y2n hx hc
  obtain ⟨m,hm⟩:=y1o hy
  have hbody:z4h P g (false::pos)=some c:=by simp [z4h,hcd,v1e]
  have key:∀ (m:Nat) (x:Tup a.head.scs),n≤(y3m std a.head x).s.heap.length→z6l (fun x=>opt.run _ (x5n opt std rec n g pos c a x)) m x=some y→
    n≤(z2k std a.outs y).2.s.heap.length∧z7c P n (.loop c) (y3m std a.head x).s (fun e' s2=>e'=(z2k std a.outs y).1∧s2=(z2k std a.outs y).2.s):=by
   intro m
   induction m with
   |zero=>intro x _ h; simp [z6l] at h
   |succ m ih=>
    intro x hnx hit
    simp only [z6l] at hit
    split at hit
    ·rename_i x' hb
     obtain ⟨e,s',l1,l2,hk⟩:=hr _ _ _ _ _ _ _ _ hbody hnx hb
     cases e with
     |normal=>
      simp only at hk
      split at hk
      ·rename_i cs' x'' hf
       obtain ⟨hc',hk⟩:=z1r hk
       cases hk
       obtain ⟨w1,w2⟩:=y2n hf hc'
       obtain ⟨i1,i2⟩:=ih _ w2 hit
       refine ⟨i1,z3b ((l2.seen w1).mono fun e' s2 hq=>?_)⟩
       obtain ⟨rfl,rfl⟩:=hq
       exact i2
      ·cases hk
     |exit j=>
      simp only at hk
      split at hk
      ·obtain ⟨_,hk⟩:=z1r hk; cases hk
      ·cases hk
     |ret=>
      simp only at hk
      split at hk
      ·obtain ⟨_,hk⟩:=z1r hk; cases hk
      ·cases hk
    ·rename_i y' hb
     cases hit
     obtain ⟨e,s',l1,l2,hk⟩:=hr _ _ _ _ _ _ _ _ hbody hnx hb
     have fin:∀ cs,z9b std n a.outs e s'.s=some (cs,y)→z1z cs=true→e≠ .normal→n≤(z2k std a.outs y).2.s.heap.length∧z7c P n (.loop c) (y3m std a.head x).s (fun e' s2=>e'=(z2k std a.outs y).1∧s2=(z2k std a.outs y).2.s):=by
      intro cs hf hc' hne
      obtain ⟨e1,w1,w2⟩:=z9y hf hc'
      refine ⟨w2,z3b ((l2.seen w1).mono fun e' s2 hq=>?_)⟩
      obtain ⟨rfl,rfl⟩:=hq
      cases e' with
      |normal=>exact absurd rfl hne
      |exit j=>exact ⟨e1.symm,rfl⟩
      |ret=>exact ⟨e1.symm,rfl⟩
     cases e with
     |normal=>
      simp only at hk
      split at hk
      ·obtain ⟨_,hk⟩:=z1r hk; cases hk
      ·cases hk
     |exit j=>
      simp only at hk
      split at hk
      ·rename_i cs' y'' hf
       obtain ⟨hc',hk⟩:=z1r hk
       cases hk
       exact fin _ hf hc' (by simp)
      ·cases hk
     |ret=>
      simp only at hk
      split at hk
      ·rename_i cs' y'' hf
       obtain ⟨hc',hk⟩:=z1r hk
       cases hk
       exact fin _ hf hc' (by simp)
      ·cases hk
    ·cases hit
  obtain ⟨k1,k2⟩:=key m x v2 hm
  exact ⟨_,_,k1,y35 v1 k2,h⟩
 ·cases h
def w8y (A:Alg) (p:Prim) (n:Nat) (os:x8u) (β:Type) (body:(γ:Type)→(AX→SS→A.Ω γ)→A.Ω γ) (k:AX→SS→A.Ω β):A.Ω β:=
 x2v A β p os (A.run _ (body _ fun e s=>match z9b p n os e s.s with
  |some (cs,y)=>y2l A _ cs (A.ret _ y)
  |none=>A.no _ 85)) k
theorem w39 {n:Nat} {os:x8u} {β:Type} {body:(γ:Type)→(AX→SS→Option γ)→Option γ} {k:AX→SS→Option β} {b:β} {G:AX→SS→Prop} (hb:∀ γ k (b:γ),body γ k=some b→∃ e ss',G e ss'∧k e ss'=some b)
  (h:w8y opt std n os β body k=some b):∃ e ss1 ss',G e ss1∧y3q n ss1.s ss'.s∧(n≤ss1.s.heap.length→n≤ss'.s.heap.length)∧k e ss'=some b:=by
 unfold w8y at h
 obtain ⟨y,hy,h⟩:=z56 h
 obtain ⟨e,ss1,hg,hk⟩:=hb _ _ _ hy
 split at hk
 ·rename_i cs y' hf
  obtain ⟨hc,hk⟩:=z1r hk
  cases hk
  obtain ⟨e1,w1,w2⟩:=z9y hf hc
  subst e1
  exact ⟨_,ss1,_,hg,w1,fun _=>w2,h⟩
 ·cases hk
end
end Go.Am
end
section
namespace Go.Am
structure Ctr where
 g:FuncId
 args:List VT
 heap:List OT
 outs:x8u
def Ctr.scs (c:Ctr):List Sc:=v1k c.heap++(v1j c.heap++x03 c.args)
def x22 (p:Prim) (c:Ctr) (vs:List Val):List AV×List AO:=
 ((z6n p (z7f c.heap vs).1 c.args (y5w p (z7f c.heap vs).1 (z7f c.heap vs).1 c.heap (z7f c.heap vs).2).2).1,(y5w p (z7f c.heap vs).1 (z7f c.heap vs).1 c.heap (z7f c.heap vs).2).1)
def CtrOk (P:Program) (c:Ctr) (F:Tup c.scs→Option (STup (scss c.outs))):Prop:=
 z3e P c.g∧∀ x y,F x=some y→(x22 std c (y5u c.scs x)).2.length≤(z2k std c.outs y).2.s.heap.length∧
  z97 P c.g (x22 std c (y5u c.scs x)).1 (x22 std c (y5u c.scs x)).2 (z2p (z2k std c.outs y).2.s.env 0) (z2k std c.outs y).2.s.heap
theorem z97.sees {P:Program} {g:FuncId} {args:List AV} {h:List AO} {r:AV} {h0 h':List AO} {env:List (Nat×AV)} {nt:Nat} (ha:z97 P g args h r h0) (hv:y3q h.length ⟨[(0,r)],h0,1⟩ ⟨env,h',nt⟩):z97 P g args h (z2p env 0) h':=⟨by
 intro ρ vs w cs a1 a2 a3
 obtain ⟨ρ',v,w',fr,b1,b2,b3,b4,b5,b6,b7⟩:=ha.run ρ vs w cs a1 a2 a3
 have hst:z2j P ρ' ⟨[(0,r)],h0,1⟩ #[v] w':=⟨b5,fun t=>by
  show z02 ρ' (z0n ρ' h0) w' (z2p [(0,r)] t) _
  simp only [z2p]
  cases hb:Nat.beq 0 t with
  |true=>have:=Nat.eq_of_beq_eq_true hb; subst this; exact b4
  |false=>exact .bot _,rfl,b6⟩
 obtain ⟨ρ2,c1,c2,c3,c4⟩:=hv.run ρ' #[v] w' hst
 exact ⟨ρ2,v,w',fr,b1,b2,b3,c1.env 0,c1.heap,c1.dom,b7.trans c3⟩⟩
def bodyRun (A:Alg) (p:Prim) (E:Env) (O:Orc A) (f:Nat) (c:Ctr) (x:Tup c.scs):A.Ω (STup (scss c.outs)):=
 x8f A E (sym A p E O f) _ c.g (x22 p c (y5u c.scs x)).1 (x22 p c (y5u c.scs x)).2 (y8u c.heap) fun r h _=>
  match z9b p (x22 p c (y5u c.scs x)).2.length c.outs .ret ⟨[(0,r)],h,1⟩ with
  |some (cs,y)=>y2l A _ cs (A.ret _ y)
  |none=>A.no _ 91
theorem ctr_of_body {P:Program} {E:Env} {O:Orc opt} (hE:y5s P E) (hO:y9v P O) {f:Nat} {c:Ctr} {F:Tup c.scs→Option (STup (scss c.outs))} (hen:z3e P c.g) (h:∀ x,bodyRun opt std E O f c x=F x):CtrOk P c F:=by
 refine ⟨hen,fun x y hy=>?_⟩
 rw [←h x] at hy
 obtain ⟨r,h',K',c1,c2,c3,hk⟩:=y36 hE (w6a hE hO f) hy
 split at hk
 ·rename_i cs y' hf
  obtain ⟨hc,hk⟩:=z1r hk
  cases hk
  obtain ⟨e1,w1,w2⟩:=z9y hf hc
  exact ⟨w2,c1.sees w1⟩
 ·cases hk
mutual
def z82 (f:Nat→Nat):AV→AV
 | .bptr i off=> .bptr (f i) off
 | .ptr i j off=> .ptr (f i) j off
 | .slice i z off len cap=> .slice (f i) z off len cap
 | .map i=> .map (f i)
 | .yld i=> .yld (f i)
 | .clo fn fs cs=> .clo fn (x66 f fs) (x66 f cs)
 | .iface t v=> .iface t (z82 f v)
 | .agg l=> .agg (x66 f l)
 | .tuple l=> .tuple (x66 f l)
 | .bot=> .bot
 | .d x=> .d x
 | .lptr r off=> .lptr r off
def x66 (f:Nat→Nat):List AV→List AV
 |[]=>[]
 |x::l=>z82 f x::x66 f l
end
theorem z2x (f:Nat→Nat) (l:List AV):x66 f l=l.map (z82 f):=by
 induction l with
 |nil=>rfl
 |cons x l ih=>simp [x66,ih]
def v03 (f:Nat→Nat):List (Nat×AV)→List (Nat×AV)
 |[]=>[]
 |(k,x)::l=>(k,z82 f x)::v03 f l
theorem w0i (f:Nat→Nat) (env:List (Nat×AV)) (t:Nat):z2p (v03 f env) t=z82 f (z2p env t):=by
 induction env with
 |nil=>rfl
 |cons x env ih=>
  obtain ⟨k,x⟩:=x
  simp only [v03,z2p]
  cases Nat.beq k t<;>simp [ih]
def x9o (f:Nat→Nat):List (List AV)→List (List AV)
 |[]=>[]
 |x::l=>x66 f x::x9o f l
theorem y1f (f:Nat→Nat) (l:List (List AV)):x9o f l=l.map (x66 f):=by
 induction l with
 |nil=>rfl
 |cons x l ih=>simp [x9o,ih]
def x06 (f:Nat→Nat):AO→AO
 | .dead=> .dead
 | .box l=> .box (x66 f l)
 | .row es=> .row es
 | .arow es=> .arow (x9o f es)
 | .map es=> .map es
 | .loop st pd g pos nt env=> .loop st pd g pos nt (v03 f env)
theorem z3i (f:Nat→Nat) (o:AO):(x06 f o).live=o.live:=by cases o<;>rfl
section ren
variable {P:Program} {ρ1 ρ2:Rho} {O1 O2:Nat→Prop} {w:World} {f:Nat→Nat}
theorem y8e (hO:∀ b,O2 b→O1 b) (hf:∀ j M,ρ1 j=some M→ρ2 (f j)=some M) {x:AV} {v:Value} (hv:z02 ρ1 O1 w x v):z02 ρ2 O2 w (z82 f x) v:=by
 have hk:z5l O1 O2 w w:=⟨Nat.le_refl _,fun _ _ _=>rfl,fun b _ hb=>hO b hb,fun _ _ h=>h,z05.refl _⟩
 induction hv with
 |bot v=>exact .bot v
 |d h=>exact .d (h.keep hk)
 |bptr id off L hL=>exact .bptr _ off L (hf _ _ hL)
 |ptr id i off L hL=>exact .ptr _ i off L (hf _ _ hL)
 |lptr r off b o hlt hO' cell hc hrr=>exact .lptr r off b o hlt (fun hb=>hO' (hO b hb)) cell hc (fun j x hx=>(hrr j x hx).keep hk)
 |slice id z off len cap L a c hL hz ha hc hl=>exact .slice _ z off len cap L a c (hf _ _ hL) hz ha hc hl
 |nils id z off cap a hc=>exact .nils _ z off cap a hc
 |map id L hL=>exact .map _ L (hf _ _ hL)
 |yld id L hL=>exact .yld _ L (hf _ _ hL)
 |clo fn fs cs vf vc hl1 hl2 h1 h2 ih1 ih2=>
  simp only [z82,z2x]
  refine .clo fn _ _ vf vc (by simpa using hl1) (by simpa using hl2) (fun i x hx=>?_) (fun i x hx=>?_)
  ·rw [List.getElem?_map] at hx
   cases hq:fs[i]? with
   |none=>rw [hq] at hx; cases hx
   |some y=>rw [hq] at hx; cases hx; exact ih1 i y hq
  ·rw [List.getElem?_map] at hx
   cases hq:cs[i]? with
   |none=>rw [hq] at hx; cases hx
   |some y=>rw [hq] at hx; cases hx; exact ih2 i y hq
 |iface t x v h ih=>exact .iface t _ v ih
 |agg xs vs hl h ih=>
  simp only [z82,z2x]
  refine .agg _ vs (by simpa using hl) (fun i x hx=>?_)
  rw [List.getElem?_map] at hx
  cases hq:xs[i]? with
  |none=>rw [hq] at hx; cases hx
  |some y=>rw [hq] at hx; cases hx; exact ih i y hq
 |tuple xs vs hl h ih=>
  simp only [z82,z2x]
  refine .tuple _ vs (by simpa using hl) (fun i x hx=>?_)
  rw [List.getElem?_map] at hx
  cases hq:xs[i]? with
  |none=>rw [hq] at hx; cases hx
  |some y=>rw [hq] at hx; cases hx; exact ih i y hq
theorem w72 (hO:∀ b,O2 b→O1 b) (hf:∀ j M,ρ1 j=some M→ρ2 (f j)=some M) {L:Loc} {o:AO} (h:z2h P ρ1 O1 w L o):z2h P ρ2 O2 w L (x06 f o):=by
 have hk:z5l O1 O2 w w:=⟨Nat.le_refl _,fun _ _ _=>rfl,fun b _ hb=>hO b hb,fun _ _ h=>h,z05.refl _⟩
 cases o with
 |dead=>trivial
 |box cells=>
  obtain ⟨c,t,hc,hj⟩:=h
  refine ⟨c,t,hc,fun j x hx=>?_⟩
  rw [z2x,List.getElem?_map] at hx
  cases hq:cells[j]? with
  |none=>rw [hq] at hx; cases hx
  |some y=>
   rw [hq] at hx; cases hx
   obtain ⟨v,hv,hr⟩:=hj j y hq
   exact ⟨v,hv,y8e hO hf hr⟩
 |row es=>
  obtain ⟨hz,c,t,hc,hl,hj⟩:=h
  exact ⟨hz,c,t,hc,hl,fun i r j x hi hx=>let ⟨v,hv,h1,hr⟩:=hj i r j x hi hx; ⟨v,hv,h1,hr.keep hk⟩⟩
 |arow es=>
  obtain ⟨hz,c,t,hc,hl,hj⟩:=h
  refine ⟨hz,c,t,hc,fun i r hi=>?_,fun i r j x hi hx=>?_⟩
  ·rw [y1f,List.getElem?_map] at hi
   cases hq:es[i]? with
   |none=>rw [hq] at hi; cases hi
   |some y=>rw [hq] at hi; cases hi; rw [z2x,List.length_map]; exact hl i y hq
  ·rw [y1f,List.getElem?_map] at hi
   cases hq:es[i]? with
   |none=>rw [hq] at hi; cases hi
   |some y=>
    rw [hq] at hi; cases hi
    rw [z2x,List.getElem?_map] at hx
    cases hq2:y[j]? with
    |none=>rw [hq2] at hx; cases hx
    |some z=>
     rw [hq2] at hx; cases hx
     obtain ⟨v,hv,h1,hr⟩:=hj i y j z hq hq2
     exact ⟨v,hv,h1,y8e hO hf hr⟩
 |map es=>
  obtain ⟨en,clk,hc,hl,hj⟩:=h
  exact ⟨en,clk,hc,hl,fun i k x hi=>let ⟨e,he,h1,h2⟩:=hj i k x hi; ⟨e,he,h1.keep hk,h2.keep hk⟩⟩
 |loop st pd g pos nt env=>
  obtain ⟨x,ps,asg,body,hcd,tm,ds,fid,hc,hl,hj⟩:=h
  exact ⟨x,ps,asg,body,hcd,tm,ds,fid,hc,hl,fun t=>by rw [w0i]; exact y8e hO hf (hj t)⟩
end ren
def z4m (σ:List (Option Nat)) (base:Nat) (j:Nat):Nat:=
 match z2o σ j with
 |some (some a)=>a
 |_=>base+(j - σ.length)
def z21 (f:Nat→Nat):List AO→Nat→List AO→List AO
 |h,_,[]=>h
 |h,j,o::os=>z21 f (z1t h (f j) (x06 f o)) (j+1) os
theorem y6i (f:Nat→Nat):∀ (os:List AO) (h:List AO) (j:Nat) (id:Nat),(∀ a b,j≤a→a<j+os.length→j≤b→b<j+os.length→f a=f b→a=b)→
  (∀ k,k<os.length→z0s (z21 f h j os) (f (j+k))=x06 f (z0s os k))∧((∀ k,k<os.length→f (j+k)≠id)→z0s (z21 f h j os) id=z0s h id):=by
 intro os
 induction os with
 |nil=>intro h j id _; exact ⟨fun k hk=>by simp at hk,fun _=>rfl⟩
 |cons o os ih=>
  intro h j id hinj
  have hinj':∀ a b,j+1≤a→a<j+1+os.length→j+1≤b→b<j+1+os.length→f a=f b→a=b:=fun a b h1 h2 h3 h4=>hinj a b (by omega) (by simp; omega) (by omega) (by simp; omega)
  simp only [z21]
  refine ⟨fun k hk=>?_,fun hne=>?_⟩
  ·cases k with
   |zero=>
    rw [(ih _ (j+1) (f (j+0)) hinj').2 (fun k hk=>?_)]
    ·rw [Nat.add_zero,z0t]; rfl
    ·intro e
     have:=hinj _ _ (by omega) (by simp; omega) (by omega) (by simp) e
     omega
   |succ k=>
    have:=(ih (z1t h (f j) (x06 f o)) (j+1) id hinj').1 k (by simpa using hk)
    rw [show j+1+k=j+(k+1) by omega] at this
    exact this
  ·rw [(ih _ (j+1) id hinj').2 (fun k hk=>by rw [show j+1+k=j+(k+1) by omega]; exact hne (k+1) (by simpa using hk)),z0j _ _ _ _ (by have:=hne 0 (by simp); simpa using this)]
theorem y18 (f:Nat→Nat):∀ (os:List AO) (h:List AO) (j:Nat),h.length≤(z21 f h j os).length∧∀ k,k<os.length→f (j+k)<(z21 f h j os).length:=by
 intro os
 induction os with
 |nil=>intro h j; exact ⟨Nat.le_refl _,fun k hk=>by simp at hk⟩
 |cons o os ih=>
  intro h j
  simp only [z21]
  obtain ⟨a,b⟩:=ih (z1t h (f j) (x06 f o)) (j+1)
  obtain ⟨c,d⟩:=z2b h (f j) (x06 f o)
  refine ⟨Nat.le_trans c a,fun k hk=>?_⟩
  cases k with
  |zero=>exact Nat.lt_of_lt_of_le d a
  |succ k=>rw [show j+(k+1)=j+1+k by omega]; exact b k (by simpa using hk)
def z96 (base:Nat):List (Option Nat)→Bool
 |[]=>true
 |some a::r=>Nat.blt a base&&z96 base r
 |none::_=>false
theorem y11 {base:Nat}:∀ {σ:List (Option Nat)},z96 base σ=true→∀ j,j<σ.length→∃ a,z2o σ j=some (some a)∧a<base
 |[],_,j,hj=>by simp at hj
 |none::_,h,_,_=>by cases h
 |some a::r,h,j,hj=>by
  simp only [z96,Bool.and_eq_true] at h
  cases j with
  |zero=>exact ⟨a,rfl,Nat.le_of_ble_eq_true h.1⟩
  |succ j=>simpa [z2o] using y11 h.2 j (by simpa using hj)
section frame
variable {P:Program} {ρ:Rho} {h:List AO} {w:World} {σ:List (Option Nat)}
def Rho.lent (ρ:Rho) (h:List AO) (σ:List (Option Nat)):Rho:=
 ⟨(ρ.via σ).loc,fun b=>ρ.fr b∨∃ a M,ρ a=some M∧(z0s h a).live=true∧(∀ j,z2o σ j≠some (some a))∧M.blk=b⟩
theorem y3w {hT:List AO} (hk:HOk ρ (ρ.lent h σ) (z0n ρ h) (z0n ρ h) h w σ hT) (b:Nat) (hb:z0n (ρ.lent h σ) hT b):z0n ρ h b:=by
 rcases hb with (hf|⟨a,M,hM,hl,_,rfl⟩)|⟨i,M,hM,hl,rfl⟩
 ·exact .inl hf
 ·exact .inr ⟨a,M,hM,hl,rfl⟩
 ·obtain ⟨a,ha,hMa⟩:=z3z hM
  exact .inr ⟨a,M,hMa,(hk.nth i _ ha).live hl,rfl⟩
theorem x99 (hr:z0e P ρ h w) (hinj:w0e σ=true) {hT:List AO} (hk:HOk ρ (ρ.lent h σ) (z0n ρ h) (z0n ρ h) h w σ hT):z0e P (ρ.lent h σ) hT w:=by
 have kp:z5l (z0n ρ h) (z0n (ρ.lent h σ) hT) w w:=⟨Nat.le_refl _,fun _ _ _=>rfl,fun b _ hb=>y3w hk b hb,fun _ _ h=>h,z05.refl _⟩
 have kp2:∀ {x:AV} {v:Value},z02 (ρ.lent h σ) (z0n ρ h) w x v→z02 (ρ.lent h σ) (z0n (ρ.lent h σ) hT) w x v:=fun hv=>hv.keep kp (fun _ _ h=>h)
 refine ⟨fun i M hM=>?_,fun i j M M' h1 h2 l1 l2 hb=>?_,fun b hf=>?_,fun i M hM hl hf=>?_⟩
 ·obtain ⟨a,ha,hMa⟩:=z3z hM
  obtain ⟨o1,o2⟩:=hr.obj a M hMa
  refine ⟨o1,?_⟩
  rcases hk.nth i _ ha with e|⟨es,e,hrow⟩|⟨es,e,hmap⟩|⟨cells,ys,hbox,e,hlen,hys⟩|⟨st,pd,g,pos,nt,env,env',hlp,e,henv⟩
  ·rw [e]; trivial
  ·rw [e]
   rcases hrow with hrow|⟨es0,hrow,hdd⟩
   ·rw [hrow] at o2
    obtain ⟨hz,c,t,hc,hl,hj⟩:=o2
    exact ⟨hz,c,t,hc,hl,fun i r j x hi hx=>let ⟨v,hv,h1,hvr⟩:=hj i r j x hi hx; ⟨v,hv,h1,hvr.keep kp⟩⟩
   ·rw [hrow,y2u hdd] at o2
    obtain ⟨hz,c,t,hc,hl,hj⟩:=o2
    refine ⟨hz,c,t,hc,fun i r hi=>?_,fun i r j x hi hx=>?_⟩
    ·have:=hl i (toA r) (by rw [z41,hi]; rfl)
     rwa [z1j] at this
    ·obtain ⟨v,hv,h1,hvr⟩:=hj i (toA r) j (.d x) (by rw [z41,hi]; rfl) (by rw [z2l,hx]; rfl)
     cases hvr with|d hvr=>exact ⟨v,hv,h1,hvr.keep kp⟩
  ·rw [e]; rw [hmap] at o2
   obtain ⟨en,clk,hc,hl,hj⟩:=o2
   exact ⟨en,clk,hc,hl,fun i k x hi=>let ⟨e,he,h1,h2⟩:=hj i k x hi; ⟨e,he,h1.keep kp,h2.keep kp⟩⟩
  ·rw [e]; rw [hbox] at o2
   obtain ⟨c,t,hc,hj⟩:=o2
   refine ⟨c,t,hc,fun j y hy=>?_⟩
   have hjl:j<cells.length:=by rw [←hlen]; exact (List.getElem?_eq_some_iff.1 hy).1
   obtain ⟨v,hv,_⟩:=hj j _ (List.getElem?_eq_getElem hjl)
   have:=hys (fun j=>(c[M.base+j]?).getD undef) (fun j x hx=>by
    obtain ⟨u,hu,hur⟩:=hj j x hx
    simp only [hu,Option.getD_some]; exact hur) j y hy
   simp only [hv,Option.getD_some] at this
   exact ⟨v,hv,kp2 this⟩
  ·rw [e]; rw [hlp] at o2
   obtain ⟨x,ps,asg,body,hcd,tm,ds,f,hc,hl,hj⟩:=o2
   exact ⟨x,ps,asg,body,hcd,tm,ds,f,hc,hl,fun t=>kp2 (henv (fun t=>tm.getD t undef) hj t)⟩
 ·obtain ⟨a,ha,hMa⟩:=z3z h1
  obtain ⟨a',ha',hMa'⟩:=z3z h2
  have:=hr.inj a a' M M' hMa hMa' ((hk.nth i _ ha).live l1) ((hk.nth j _ ha').live l2) hb
  subst this
  exact z89 hinj ha ha'
 ·rcases hf with hf|⟨a,M,hM,hl,_,rfl⟩
  ·exact hr.fr b hf
  ·exact (hr.obj a M hM).1
 ·obtain ⟨a,ha,hMa⟩:=z3z hM
  have hla:=(hk.nth i _ ha).live hl
  rcases hf with hf|⟨a',M',hM',hl',hno,hb⟩
  ·exact hr.sep a M hMa hla hf
  ·have:=hr.inj a' a M' M hM' hMa hl' hla hb
   subst this
   exact hno i ha
theorem x3s {ρ:Rho} {O:Nat→Prop} {w:World} {L:Loc} {o:AO} (h:¬ o.live=true):z2h P ρ O w L o:=by
 cases o<;>first|trivial|exact absurd rfl h
set_option maxHeartbeats 1000000 in
theorem x7u {n : Nat} {s : AS} (hn : n ≤ s.heap.length) (hinj : w0e σ = true) (hth : z96 s.heap.length σ = true) {g : FuncId} {args argsT : List AV} {hT hT' : List AO} {r : AV} (hlen : hT.length ≤ hT'.length)
    (hfit : ∀ (ρ : Rho) (w : World), z0e P ρ s.heap w → HOk ρ (ρ.lent s.heap σ) (z0n ρ s.heap) (z0n ρ s.heap) s.heap w σ hT ∧ argsT.length = args.length ∧
      ∀ f : Nat → Value, (∀ i x, args[i]? = some x → z02 ρ (z0n ρ s.heap) w x (f i)) → ∀ i y, argsT[i]? = some y → z02 (ρ.lent s.heap σ) (z0n ρ s.heap) w y (f i))
    (ha : z97 P g argsT hT r hT') : z7j P n g args s (z82 (z4m σ s.heap.length) r) ⟨s.env, z21 (z4m σ s.heap.length) s.heap 0 hT', s.nt⟩ := ⟨by
  intro ρ vs tm w cs hs hargs
  obtain ⟨hk, hal, hav⟩ := hfit ρ w hs.heap
  have hKlen : hT.length = σ.length := hk.len
  have hheap := x99 hs.heap hinj hk
  have kp : z5l (z0n ρ s.heap) (z0n (ρ.lent s.heap σ) hT) w w := ⟨Nat.le_refl _, fun _ _ _ => rfl, fun b _ hb => y3w hk b hb, fun _ _ h => h, z05.refl _⟩
  have hdomT : Dom (ρ.lent s.heap σ) hT := fun id hid => by
    cases hq : (ρ.lent s.heap σ) id with
    | none => exact absurd hq hid
    | some M =>
      obtain ⟨a, ha, _⟩ := z3z hq
      rw [z19] at ha
      rw [hKlen]; exact (List.getElem?_eq_some_iff.1 ha).1
  obtain ⟨ρ1, v, w', fr, b1, b2, b3, b4, b5, b6, b7⟩ := ha.run (ρ.lent s.heap σ) vs w cs hheap hdomT ⟨by rw [hal]; exact hargs.1, fun i y hy => (hav (fun i => vs.getD i undef) (fun i x hx => hargs.2 i x hx) i y hy).keep kp (fun _ _ h => h)⟩
  let base := s.heap.length
  let f := z4m σ base
  let ρ2 : Rho := ⟨fun id => if id < base then ρ id else ρ1 (σ.length + (id - base)), ρ.fr⟩
  let h2 := z21 f s.heap 0 hT'
  have fK : ∀ j, j < σ.length → ∃ a, z2o σ j = some (some a) ∧ a < base ∧ f j = a := fun j hj => by
    obtain ⟨a, h1, h2⟩ := y11 hth j hj
    exact ⟨a, h1, h2, by show z4m σ base j = a; simp [z4m, h1]⟩
  have fN : ∀ j, σ.length ≤ j → f j = base + (j - σ.length) := fun j hj => by
    have : z2o σ j = none := by rw [z19]; exact List.getElem?_eq_none hj
    show z4m σ base j = _; simp [z4m, this]
  have finj : ∀ a b, f a = f b → a = b := by
    intro a b e
    by_cases ha : a < σ.length
    · obtain ⟨x, x1, x2, x3⟩ := fK a ha
      by_cases hb : b < σ.length
      · obtain ⟨y, y1, y2, y3⟩ := fK b hb
        have : x = y := by rw [← x3, ← y3, e]
        subst this
        exact z89 hinj x1 y1
      · have := fN b (by omega); omega
    · by_cases hb : b < σ.length
      · obtain ⟨y, y1, y2, y3⟩ := fK b hb
        have := fN a (by omega); omega
      · have h1 := fN a (by omega)
        have h2 := fN b (by omega)
        omega
  have hrho : ∀ j M, ρ1 j = some M → ρ2 (f j) = some M := by
    intro j M hM
    by_cases hj : j < σ.length
    · obtain ⟨a, a1, a2, a3⟩ := fK j hj
      have e := b7.rho j (by show j < hT.length; omega)
      rw [hM] at e
      have e2 : (ρ.lent s.heap σ) j = ρ a := by show (match z2o σ j with | some (some a) => ρ a | _ => none) = _; rw [a1]
      rw [a3]
      show (if a < base then ρ a else _) = _
      rw [if_pos a2, ← e2, ← e]
    · rw [fN j (by omega)]
      show (if base + (j - σ.length) < base then _ else ρ1 (σ.length + (base + (j - σ.length) - base))) = _
      rw [if_neg (by omega), show σ.length + (base + (j - σ.length) - base) = j by omega]; exact hM
  have nth1 : ∀ j, j < hT'.length → z0s h2 (f j) = x06 f (z0s hT' j) := fun j hj => by
    have := (y6i f hT' s.heap 0 0 (fun a b _ _ _ _ e => finj a b e)).1 j hj
    rw [Nat.zero_add] at this; exact this
  have nth2 : ∀ id, (∀ j, j < hT'.length → f j ≠ id) → z0s h2 id = z0s s.heap id := fun id hne =>
    (y6i f hT' s.heap 0 id (fun a b _ _ _ _ e => finj a b e)).2 (fun k hk => by rw [Nat.zero_add]; exact hne k hk)
  have lenH : base ≤ h2.length := (y18 f hT' s.heap 0).1
  have other : ∀ id M, ρ2 id = some M → (∀ j, j < hT'.length → f j ≠ id) → (z0s h2 id).live = true → id < base ∧ ρ id = some M ∧ (z0s s.heap id).live = true ∧ (ρ.lent s.heap σ).fr M.blk := by
    intro id M hM hne hl
    rw [nth2 id hne] at hl
    have hlt : id < base := by
      rcases Nat.lt_or_ge id base with h | h
      · exact h
      · rw [x3t _ _ h] at hl; cases hl
    have hM' : ρ id = some M := by
      have : (if id < base then ρ id else ρ1 (σ.length + (id - base))) = some M := hM
      rw [if_pos hlt] at this; exact this
    refine ⟨hlt, hM', hl, .inr ⟨id, M, hM', hl, fun j hj => ?_, rfl⟩⟩
    have hjl : j < σ.length := by rw [z19] at hj; exact (List.getElem?_eq_some_iff.1 hj).1
    obtain ⟨a, a1, a2, a3⟩ := fK j hjl
    rw [a1] at hj; cases hj
    exact hne j (by omega) a3
  have mine : ∀ id, (∃ j, j < hT'.length ∧ f j = id) ∨ ∀ j, j < hT'.length → f j ≠ id := fun id => by
    by_cases h : ∃ j, j < hT'.length ∧ f j = id
    · exact .inl h
    · exact .inr fun j hj e => h ⟨j, hj, e⟩
  have rho1 : ∀ j M, j < hT'.length → ρ2 (f j) = some M → ρ1 j = some M := by
    intro j M hj hM
    by_cases hjK : j < σ.length
    · obtain ⟨a, a1, a2, a3⟩ := fK j hjK
      rw [a3] at hM
      have hM : (if a < base then ρ a else _) = some M := hM
      rw [if_pos a2] at hM
      have e := b7.rho j (by show j < hT.length; omega)
      have e2 : (ρ.lent s.heap σ) j = ρ a := by show (match z2o σ j with | some (some a) => ρ a | _ => none) = _; rw [a1]
      rw [e, e2]; exact hM
    · rw [fN j (by omega)] at hM
      have hM : (if base + (j - σ.length) < base then ρ (base + (j - σ.length)) else ρ1 (σ.length + (base + (j - σ.length) - base))) = some M := hM
      rw [if_neg (by omega), show σ.length + (base + (j - σ.length) - base) = j by omega] at hM
      exact hM
  have frEq : ρ1.fr = (ρ.lent s.heap σ).fr := b7.fr
  have own2 : ∀ b, z0n ρ2 h2 b → z0n ρ1 hT' b := by
    intro b hb
    rcases hb with hf | ⟨id, M, hM, hl, rfl⟩
    · exact .inl (by rw [frEq]; exact .inl hf)
    · rcases mine id with ⟨j, hj, rfl⟩ | hne
      · rw [nth1 j hj, z3i] at hl
        exact .inr ⟨j, M, rho1 j M hj hM, hl, rfl⟩
      · exact .inl (by rw [frEq]; exact (other id M hM hne hl).2.2.2)
  have hmono : ∀ id M, ρ id = some M → ρ2 id = some M := fun id M hM => by
    have hlt : id < base := hs.dom id (by rw [hM]; simp)
    show (if id < base then ρ id else _) = _
    rw [if_pos hlt]; exact hM
  have kpAll : z5l (z0n ρ s.heap) (z0n ρ2 h2) w w' :=
    { size := b7.keep.size
      frame := fun b hb hno => b7.keep.frame b hb (fun h => hno (y3w hk b h))
      own := fun b hb ho => y3w hk b (b7.keep.own b hb (own2 b ho))
      shape := b7.keep.shape
      drawn := b7.keep.drawn }
  have hheap2 : z0e P ρ2 h2 w' := by
    refine ⟨fun id M hM => ?_, fun i j M M' h1 h2' l1 l2 hb => ?_, fun b hf => Nat.lt_of_lt_of_le (hs.heap.fr b hf) b7.keep.size, fun id M hM hl hf => ?_⟩
    · rcases mine id with ⟨j, hj, rfl⟩ | hne
      · obtain ⟨o1, o2⟩ := b5.obj j M (rho1 j M hj hM)
        exact ⟨o1, by rw [nth1 j hj]; exact w72 own2 hrho o2⟩
      · by_cases hl : (z0s h2 id).live = true
        · obtain ⟨c1, c2, c3, c4⟩ := other id M hM hne hl
          obtain ⟨o1, o2⟩ := hs.heap.obj id M c2
          refine ⟨Nat.lt_of_lt_of_le o1 b7.keep.size, ?_⟩
          rw [nth2 id hne]
          exact o2.keep kpAll hmono (b7.frs _ c4)
        · by_cases hlt : id < base
          · have hM' : ρ id = some M := by
              have : (if id < base then ρ id else ρ1 (σ.length + (id - base))) = some M := hM
              rw [if_pos hlt] at this; exact this
            refine ⟨Nat.lt_of_lt_of_le (hs.heap.obj id M hM').1 b7.keep.size, ?_⟩
            exact x3s hl
          · exfalso
            have hM' : (if id < base then ρ id else ρ1 (σ.length + (id - base))) = some M := hM
            rw [if_neg hlt] at hM'
            have hd := b6 _ (by rw [hM']; simp)
            refine hne _ hd ?_
            rw [fN _ (by omega)]; omega
    · rcases mine i with ⟨a, ha, rfl⟩ | hni
      · rw [nth1 a ha, z3i] at l1
        rcases mine j with ⟨b, hb', rfl⟩ | hnj
        · rw [nth1 b hb', z3i] at l2
          rw [b5.inj a b M M' (rho1 a M ha h1) (rho1 b M' hb' h2') l1 l2 hb]
        · obtain ⟨c1, c2, c3, c4⟩ := other j M' h2' hnj l2
          exact absurd (by rw [frEq, hb]; exact c4) (b5.sep a M (rho1 a M ha h1) l1)
      · obtain ⟨c1, c2, c3, c4⟩ := other i M h1 hni l1
        rcases mine j with ⟨b, hb', rfl⟩ | hnj
        · rw [nth1 b hb', z3i] at l2
          exact absurd (by rw [frEq, ← hb]; exact c4) (b5.sep b M' (rho1 b M' hb' h2') l2)
        · obtain ⟨d1, d2, d3, d4⟩ := other j M' h2' hnj l2
          exact hs.heap.inj i j M M' c2 d2 c3 d3 hb
    · rcases mine id with ⟨j, hj, rfl⟩ | hne
      · rw [nth1 j hj, z3i] at hl
        exact b5.sep j M (rho1 j M hj hM) hl (by rw [frEq]; exact .inl hf)
      · obtain ⟨c1, c2, c3, c4⟩ := other id M hM hne hl
        exact hs.heap.sep id M c2 c3 hf
  refine ⟨ρ2, v, w', fr, b1, b2, b3, y8e own2 hrho b4, ⟨hheap2, fun t => (hs.env t).keep kpAll hmono, hs.size, fun id hid => ?_⟩, rfl, ?_⟩
  · show id < h2.length
    by_cases hlt : id < base
    · omega
    · have hid' : (if id < base then ρ id else ρ1 (σ.length + (id - base))) ≠ none := hid
      rw [if_neg hlt] at hid'
      have hd := b6 _ hid'
      have := (y18 f hT' s.heap 0).2 _ hd
      rw [Nat.zero_add, fN _ (by omega)] at this
      show id < (z21 f s.heap 0 hT').length
      omega
  · exact { os := b7.os, tape := b7.tape, output := b7.output, keep := kpAll, rho := fun id hid => by
              show (if id < base then ρ id else _) = ρ id
              rw [if_pos (by show id < s.heap.length; have : id < n := hid; omega)],
            fr := rfl, frs := fun b hf => b7.frs b (.inl hf) }⟩
end frame
end Go.Am
end
section
namespace Go.Am
def v4f (f:AV→Option (Bool×D)):List AV→Option (Bool×List D)
 |[]=>some (true,[])
 |x::l=>match f x,v4f f l with
  |some (b,d),some (c,r)=>some (b&&c,d::r)
  |_,_=>none
def w42 (f:AV→Option (Bool×D)):List (List AV)→Option (Bool×List (List D))
 |[]=>some (true,[])
 |x::l=>match v4f f x,w42 f l with
  |some (b,d),some (c,r)=>some (b&&c,d::r)
  |_,_=>none
def dV (p:Prim) (h:List AO):Nat→AV→Option (Bool×D)
 |_, .d x=>some (true,x)
 |n+1, .slice id z off len cap=>match z0s h id with
  | .row es=>some (p.leN (p.add off len) (p.len es), .list false z (p.cut es off len))
  | .arow es=>match w42 (dV p h n) ((es.drop off).take len) with
   |some (b,ds)=>some (Nat.ble (off+len) es.length&&b, .list false z ds)
   |none=>none
  |_=>none
 |_,_=>none
mutual
def lV (p:Prim) (h:List AO):AV→Bool×AV
 | .bot=>(true, .bot)
 | .d x=>(true, .d x)
 | .slice id z off len cap=>match dV p h 4 (.slice id z off len cap) with
  |some (b,d)=>(b, .d d)
  |none=>(true, .bot)
 | .clo fn fs cs=>(p.and (lL p h fs).1 (lL p h cs).1, .clo fn (lL p h fs).2 (lL p h cs).2)
 | .agg l=>((lL p h l).1,x5l (lL p h l).2)
 | .tuple l=>((lL p h l).1, .tuple (lL p h l).2)
 |_=>(true, .bot)
def lL (p:Prim) (h:List AO):List AV→Bool×List AV
 |[]=>(true,[])
 |x::l=>(p.and (lV p h x).1 (lL p h l).1,(lV p h x).2::(lL p h l).2)
end
theorem y60 (p:Prim) (h:List AO):∀ l,(lL p h l).2.length=l.length
 |[]=>rfl
 |x::l=>by simp [lL,y60 p h l]
theorem y61 (h:List AO):∀ (l:List AV),(lL std h l).1=true→∀ (i:Nat) (y:AV),(lL std h l).2[i]?=some y→∃ x,l[i]?=some x∧y=(lV std h x).2∧(lV std h x).1=true
 |[],_,i,y,hi=>by simp [lL] at hi
 |x::l,hc,i,y,hi=>by
  simp only [lL,std,Bool.and_eq_true] at hc
  simp only [lL] at hi
  cases i with
  |zero=>simp at hi; subst hi; exact ⟨x,rfl,rfl,hc.1⟩
  |succ i=>simpa using y61 h l hc.2 i y (by simpa using hi)
theorem x2c {f:AV→Option (Bool×D)}:∀ {l:List AV} {ds:List D},v4f f l=some (true,ds)→ds.length=l.length∧∀ (j:Nat) (d:D),ds[j]?=some d→∃ x,l[j]?=some x∧f x=some (true,d)
 |[],ds,h=>by cases h; exact ⟨rfl,fun j d h=>by simp at h⟩
 |x::l,ds,h=>by
  simp only [v4f] at h
  split at h
  ·rename_i b d c r h1 h2
   have h:=Option.some.inj h
   have hb:=congrArg Prod.fst h
   have hd:=congrArg Prod.snd h
   simp only [Bool.and_eq_true] at hb
   obtain ⟨rfl,rfl⟩:=hb
   simp only at hd
   subst hd
   obtain ⟨a1,a2⟩:=x2c h2
   refine ⟨by simp [a1],fun j d' hj=>?_⟩
   cases j with
   |zero=>simp at hj; subst hj; exact ⟨x,rfl,h1⟩
   |succ j=>simpa using a2 j d' (by simpa using hj)
  ·cases h
theorem y7k {f:AV→Option (Bool×D)}:∀ {l:List (List AV)} {ds:List (List D)},w42 f l=some (true,ds)→ds.length=l.length∧∀ (j:Nat) (d:List D),ds[j]?=some d→∃ x,l[j]?=some x∧v4f f x=some (true,d)
 |[],ds,h=>by cases h; exact ⟨rfl,fun j d h=>by simp at h⟩
 |x::l,ds,h=>by
  simp only [w42] at h
  split at h
  ·rename_i b d c r h1 h2
   have h:=Option.some.inj h
   have hb:=congrArg Prod.fst h
   have hd:=congrArg Prod.snd h
   simp only [Bool.and_eq_true] at hb
   obtain ⟨rfl,rfl⟩:=hb
   simp only at hd
   subst hd
   obtain ⟨a1,a2⟩:=y7k h2
   refine ⟨by simp [a1],fun j d' hj=>?_⟩
   cases j with
   |zero=>simp at hj; subst hj; exact ⟨x,rfl,h1⟩
   |succ j=>simpa using a2 j d' (by simpa using hj)
  ·cases h
section
variable {P:Program} {ρ:Rho} {h:List AO} {w:World}
def frO (ρ:Rho):Nat→Prop:=z0n (ρ.only fun _=>false) []
theorem w0q:z5l (z0n ρ h) (frO ρ) w w:=⟨Nat.le_refl _,fun _ _ _=>rfl,fun b _ hb=> .inl (z6y.1 hb),fun _ _ h=>h,z05.refl _⟩
theorem x8c {c:Array Value} {t:TypeId} {b k:Nat} {v:Value} (hb:w.heap[b]?=some (.cells c t (0,0))) (hv:c[k]?=some v):w.cell? ⟨b,k,none⟩=some v:=by
 unfold World.cell?
 simp only [hb]
 simpa using hv
theorem v4e (hr:z0e P ρ h w):∀ (n:Nat) {x:AV} {v:Value} {d:D},z02 ρ (z0n ρ h) w x v→dV std h n x=some (true,d)→z2c (frO ρ) w d v
 |n, .d x,v,d,hv,hd=>by
  have hd:some (true,x)=some (true,d):=by cases n<;>exact hd
  cases hd
  cases hv with|d hv=>exact hv.keep w0q
 |0, .slice _ _ _ _ _,v,d,hv,hd=>by cases hd
 |n+1, .slice id z off len cap,v,d,hv,hd=>by
  simp only [dV] at hd
  split at hd
  ·rename_i es hes
   have e:=Option.some.inj hd
   have e1:=congrArg Prod.fst e
   have e2:=congrArg Prod.snd e
   have:=v5q hr hv
   simp only [bV,hes] at this
   have:=this e1
   simp only at e2
   rw [e2] at this
   cases this with|d h=>exact h
  ·rename_i es hes
   split at hd
   ·rename_i b ds hds
    have e:=Option.some.inj hd
    have e1:=congrArg Prod.fst e
    have e2:=congrArg Prod.snd e
    simp only [Bool.and_eq_true] at e1 e2
    obtain ⟨hle,rfl⟩:=e1
    subst e2
    have hle:=Nat.le_of_ble_eq_true hle
    obtain ⟨dl,dg⟩:=y7k hds
    have hlen:ds.length=len:=by rw [dl,List.length_take,List.length_drop]; omega
    cases hv with
    |nils=>
     have:ds=[]:=List.length_eq_zero_iff.1 hlen
     subst this
     exact .lnil _ _ _ _ (by simp)
    |slice _ _ _ _ _ L a c hL hz ha hc hl=>
     by_cases h0:len=0
     ·subst h0
      have:ds=[]:=List.length_eq_zero_iff.1 hlen
      subst this
      exact .lnil _ _ _ _ (by simp)
     have ha:=ha (by omega)
     subst ha
     obtain ⟨_,ho⟩:=hr.obj id L hL
     rw [hes] at ho
     obtain ⟨hzp,cs,t,hcb,hrl,hcell⟩:=ho
     have hlive:(z0s h id).live=true:=by rw [hes]; rfl
     have hnf:¬ frO ρ L.blk:=fun hf=>hr.sep id L hL hlive (z6y.1 hf)
     have key:∀ (i:Nat) (r:List D),ds[i]?=some r→∃ r0,es[off+i]?=some r0∧r.length=L.esz∧∀ (j:Nat) (x:D),r[j]?=some x→∃ u,cs[L.base+(off+i)*L.esz+j]?=some u∧u.oneCell'=true∧z2c (frO ρ) w x u:=by
      intro i r hi
      obtain ⟨r0,g1,g2⟩:=dg i r hi
      obtain ⟨q1,q2⟩:=x2c g2
      have hil:i<len:=by rw [←hlen]; exact (List.getElem?_eq_some_iff.1 hi).1
      rw [List.getElem?_take_of_lt hil,List.getElem?_drop] at g1
      refine ⟨r0,g1,by rw [q1]; exact hrl _ _ g1,fun j x hj=>?_⟩
      obtain ⟨y,hy,hd⟩:=q2 j x hj
      obtain ⟨u,hu,h1,hvr⟩:=hcell (off+i) r0 j y g1 hy
      exact ⟨u,hu,h1,v4e hr n hvr hd⟩
     have hlens:∀ (i:Nat) (r:List D),ds[i]?=some r→r.length=L.esz:=fun i r hi=>by obtain ⟨_,_,q,_⟩:=key i r hi; exact q
     let cell:Nat→Value:=fun k=>(cs[L.base+off*L.esz+k]?).getD undef
     have hadd:∀ i j,L.base+(off+i)*L.esz+j=L.base+off*L.esz+(i*L.esz+j):=fun i j=>by rw [Nat.add_mul]; omega
     have hall:∀ k,k<ds.length*L.esz→∃ u,cs[L.base+off*L.esz+k]?=some u∧u.oneCell'=true:=by
      intro k hk
      have hi:k / L.esz<ds.length:=(Nat.div_lt_iff_lt_mul hzp).2 hk
      have hj:k % L.esz<L.esz:=Nat.mod_lt _ hzp
      have hr':=List.getElem?_eq_getElem hi
      obtain ⟨_,_,q1,q2⟩:=key _ _ hr'
      obtain ⟨u,a1,a2,_⟩:=q2 _ _ (List.getElem?_eq_getElem (show k % L.esz<(ds[k / L.esz]).length by omega))
      have e:k / L.esz*L.esz+k % L.esz=k:=by rw [Nat.mul_comm]; exact Nat.div_add_mod _ _
      rw [hadd,e] at a1
      exact ⟨u,a1,a2⟩
     have hne:ds≠[]:=fun e=>by rw [e] at hlen; simp at hlen; omega
     have res:=z2c.list (O:=frO ρ) (w:=w) false ds L.blk (L.base+off*L.esz) z c (by omega) hne hnf (by omega) (by simp) (fun i r hi=>by rw [←hz]; exact hlens i r hi) cell (fun k hk=>?_) (fun k hk=>?_) (fun i r j x hi hj=>?_)
     ·rw [hlen] at res; exact res
     ·rw [←hz] at hk
      obtain ⟨u,a1,a2⟩:=hall k hk
      show ((cs[L.base+off*L.esz+k]?).getD undef).oneCell'=true
      rw [a1]; exact a2
     ·rw [←hz] at hk
      obtain ⟨u,a1,_⟩:=hall k hk
      show w.cell? ⟨L.blk,L.base+off*L.esz+k,none⟩=some ((cs[L.base+off*L.esz+k]?).getD undef)
      rw [a1]; exact x8c hcb a1
     ·obtain ⟨_,_,_,q2⟩:=key i r hi
      obtain ⟨u,a1,_,a3⟩:=q2 j x hj
      show z2c _ w x ((cs[L.base+off*L.esz+(i*z+j)]?).getD undef)
      rw [hadd,hz] at a1
      rw [hz,a1]; exact a3
   ·cases hd
  ·cases hd
 |n, .bot,v,d,hv,hd=>by cases n<;>cases hd
 |n, .bptr _ _,v,d,hv,hd=>by cases n<;>cases hd
 |n, .ptr _ _ _,v,d,hv,hd=>by cases n<;>cases hd
 |n, .lptr _ _,v,d,hv,hd=>by cases n<;>cases hd
 |n, .map _,v,d,hv,hd=>by cases n<;>cases hd
 |n, .yld _,v,d,hv,hd=>by cases n<;>cases hd
 |n, .clo _ _ _,v,d,hv,hd=>by cases n<;>cases hd
 |n, .iface _ _,v,d,hv,hd=>by cases n<;>cases hd
 |n, .agg _,v,d,hv,hd=>by cases n<;>cases hd
 |n, .tuple _,v,d,hv,hd=>by cases n<;>cases hd
theorem v8l (hr:z0e P ρ h w) {x:AV} {v:Value} (hv:z02 ρ (z0n ρ h) w x v):(lV std h x).1=true→z02 (ρ.only fun _=>false) (frO ρ) w (lV std h x).2 v:=by
 have sl:∀ {id z off len:Nat} {cap:Option Nat} {v:Value},z02 ρ (z0n ρ h) w (.slice id z off len cap) v→(lV std h (.slice id z off len cap)).1=true→z02 (ρ.only fun _=>false) (frO ρ) w (lV std h (.slice id z off len cap)).2 v:=by
  intro id z off len cap v hv hc
  simp only [lV] at hc⊢
  split
  ·rename_i b d hd
   rw [hd] at hc
   simp only at hc
   subst hc
   exact .d (v4e hr 4 hv hd)
  ·exact .bot _
 induction hv with
 |bot v=>intro _; exact .bot v
 |d h=>intro _; exact .d (h.keep w0q)
 |slice id z off len cap L a c hL hz ha hc hl=>exact sl (.slice id z off len cap L a c hL hz ha hc hl)
 |nils id z off cap a hc=>exact sl (.nils id z off cap a hc)
 |clo fn fs cs vf vc hl1 hl2 h1 h2 ih1 ih2=>
  intro hc
  simp only [lV,std,Bool.and_eq_true] at hc
  simp only [lV]
  refine .clo fn _ _ vf vc (by rw [y60]; exact hl1) (by rw [y60]; exact hl2) (fun i y hy=>?_) (fun i y hy=>?_)
  ·obtain ⟨x,hx,rfl,hb⟩:=y61 h fs hc.1 i y hy
   exact ih1 i x hx hb
  ·obtain ⟨x,hx,rfl,hb⟩:=y61 h cs hc.2 i y hy
   exact ih2 i x hx hb
 |agg xs vs hl hh ih=>
  intro hc
  simp only [lV] at hc⊢
  refine y6x _ vs (by rw [y60]; exact hl) (fun i y hy=>?_)
  obtain ⟨x,hx,rfl,hb⟩:=y61 h xs hc i y hy
  exact ih i x hx hb
 |tuple xs vs hl hh ih=>
  intro hc
  simp only [lV] at hc⊢
  refine .tuple _ vs (by rw [y60]; exact hl) (fun i y hy=>?_)
  obtain ⟨x,hx,rfl,hb⟩:=y61 h xs hc i y hy
  exact ih i x hx hb
 |_=>intro _; exact .bot _
end
mutual
def plV:AV→Bool
 | .bot=>true
 | .d x=>z8v x
 | .lptr _ _=>false
 | .clo _ fs cs=>plL fs&&plL cs
 | .iface _ v=>plV v
 | .agg l=>plL l
 | .tuple l=>plL l
 |_=>true
def plL:List AV→Bool
 |[]=>true
 |x::l=>plV x&&plL l
end
theorem y0s:∀ {l:List AV},plL l=true→∀ (i:Nat) (d:AV),l[i]?=some d→plV d=true
 |[],_,i,d,h=>by simp at h
 |x::l,h,i,d,hi=>by
  simp only [plL,Bool.and_eq_true] at h
  cases i with
  |zero=>simp at hi; subst hi; exact h.1
  |succ i=>exact y0s h.2 i d (by simpa using hi)
theorem x3o {ρ ρ':Rho} {O O':Nat→Prop} {w:World} {f:Nat→Nat} (hf:∀ j M,ρ j=some M→ρ' (f j)=some M) {x:AV} {v:Value} (h:z02 ρ O w x v):plV x=true→z02 ρ' O' w (z82 f x) v:=by
 induction h with
 |bot v=>intro _; exact .bot v
 |d h=>intro hp; exact .d (z7u h (by simpa only [plV] using hp))
 |bptr id off L hL=>intro _; exact .bptr _ off L (hf _ _ hL)
 |ptr id i off L hL=>intro _; exact .ptr _ i off L (hf _ _ hL)
 |lptr=>intro hp; simp [plV] at hp
 |slice id z off len cap L a c hL hz ha hc hl=>intro _; exact .slice _ z off len cap L a c (hf _ _ hL) hz ha hc hl
 |nils id z off cap a hc=>intro _; exact .nils _ z off cap a hc
 |map id L hL=>intro _; exact .map _ L (hf _ _ hL)
 |yld id L hL=>intro _; exact .yld _ L (hf _ _ hL)
 |clo fn fs cs vf vc hl1 hl2 h1 h2 ih1 ih2=>
  intro hp
  simp only [plV,Bool.and_eq_true] at hp
  simp only [z82]
  refine .clo fn _ _ vf vc (by simp [z2x,hl1]) (by simp [z2x,hl2]) (fun i y hy=>?_) (fun i y hy=>?_)
  ·rw [z2x,List.getElem?_map] at hy
   obtain ⟨x,hx,rfl⟩:=Option.map_eq_some_iff.1 hy
   exact ih1 i x hx (y0s hp.1 i x hx)
  ·rw [z2x,List.getElem?_map] at hy
   obtain ⟨x,hx,rfl⟩:=Option.map_eq_some_iff.1 hy
   exact ih2 i x hx (y0s hp.2 i x hx)
 |iface t x v h ih=>intro hp; exact .iface t _ v (ih (by simpa only [plV] using hp))
 |agg xs vs hl hh ih=>
  intro hp
  simp only [plV] at hp
  simp only [z82]
  refine .agg _ vs (by simp [z2x,hl]) (fun i y hy=>?_)
  rw [z2x,List.getElem?_map] at hy
  obtain ⟨x,hx,rfl⟩:=Option.map_eq_some_iff.1 hy
  exact ih i x hx (y0s hp i x hx)
 |tuple xs vs hl hh ih=>
  intro hp
  simp only [plV] at hp
  simp only [z82]
  refine .tuple _ vs (by simp [z2x,hl]) (fun i y hy=>?_)
  rw [z2x,List.getElem?_map] at hy
  obtain ⟨x,hx,rfl⟩:=Option.map_eq_some_iff.1 hy
  exact ih i x hx (y0s hp i x hx)
def v67:List (List AV)→Bool
 |[]=>true
 |x::l=>plL x&&v67 l
theorem x48:∀ {l:List (List AV)},v67 l=true→∀ (i:Nat) (d:List AV),l[i]?=some d→plL d=true
 |[],_,i,d,h=>by simp at h
 |x::l,h,i,d,hi=>by
  simp only [v67,Bool.and_eq_true] at h
  cases i with
  |zero=>simp at hi; subst hi; exact h.1
  |succ i=>exact x48 h.2 i d (by simpa using hi)
def plO (p:Prim):AO→Bool
 | .dead=>true
 | .box l=>plL l
 | .row es=>p.plain es
 | .arow es=>v67 es
 | .map es=>p.plainM es
 | .loop _ _ _ _ _ _=>false
def plH (p:Prim):List AO→List Bool
 |[]=>[]
 |o::l=>plO p o::plH p l
theorem x9s {p:Prim}:∀ {l:List AO},z1z (plH p l)=true→∀ i,plO p (z0s l i)=true
 |[],_,i=>by cases i<;>rfl
 |o::l,h,i=>by
  simp only [plH,z1z,Bool.and_eq_true] at h
  cases i with
  |zero=>exact h.1
  |succ i=>exact x9s h.2 i
theorem x9r {es:List (List D)} (h:std.plain es=true) {i j:Nat} {r:List D} {x:D} (hi:es[i]?=some r) (hj:r[j]?=some x):z8v x=true:=by
 have h1:=List.all_eq_true.1 h r (List.mem_of_getElem? hi)
 exact List.all_eq_true.1 h1 x (List.mem_of_getElem? hj)
section
variable {P:Program} {w:World}
theorem w77 {ρ ρ':Rho} {O O':Nat→Prop} {f:Nat→Nat} (hf:∀ j M,ρ j=some M→ρ' (f j)=some M) {L:Loc} {o:AO} (hp:plO std o=true) (h:z2h P ρ O w L o):z2h P ρ' O' w L (x06 f o):=by
 cases o with
 |dead=>trivial
 |box cells=>
  obtain ⟨c,t,hc,hj⟩:=h
  refine ⟨c,t,hc,fun j y hy=>?_⟩
  rw [z2x,List.getElem?_map] at hy
  obtain ⟨x,hx,rfl⟩:=Option.map_eq_some_iff.1 hy
  obtain ⟨v,hv,hr⟩:=hj j x hx
  exact ⟨v,hv,x3o hf hr (y0s hp j x hx)⟩
 |row es=>
  obtain ⟨hz,c,t,hc,hl,hj⟩:=h
  refine ⟨hz,c,t,hc,hl,fun i r j x hi hx=>?_⟩
  obtain ⟨v,hv,h1,hr⟩:=hj i r j x hi hx
  exact ⟨v,hv,h1,z7u hr (x9r hp hi hx)⟩
 |arow es=>
  obtain ⟨hz,c,t,hc,hl,hj⟩:=h
  refine ⟨hz,c,t,hc,fun i r hi=>?_,fun i r j y hi hy=>?_⟩
  ·rw [y1f,List.getElem?_map] at hi
   obtain ⟨r0,hr0,rfl⟩:=Option.map_eq_some_iff.1 hi
   rw [z2x,List.length_map]; exact hl i r0 hr0
  ·rw [y1f,List.getElem?_map] at hi
   obtain ⟨r0,hr0,rfl⟩:=Option.map_eq_some_iff.1 hi
   rw [z2x,List.getElem?_map] at hy
   obtain ⟨x,hx,rfl⟩:=Option.map_eq_some_iff.1 hy
   obtain ⟨v,hv,h1,hr⟩:=hj i r0 j x hr0 hx
   exact ⟨v,hv,h1,x3o hf hr (y0s (x48 hp i r0 hr0) j x hx)⟩
 |map es=>
  obtain ⟨en,clk,hc,hl,hj⟩:=h
  refine ⟨en,clk,hc,hl,fun i k x hi=>?_⟩
  obtain ⟨e,he,h1,h2⟩:=hj i k x hi
  have hpm:=List.all_eq_true.1 hp (k,x) (List.mem_of_getElem? hi)
  simp only [Bool.and_eq_true] at hpm
  exact ⟨e,he,z7u h1 hpm.1,z7u h2 hpm.2⟩
 |loop st pd g pos nt env=>cases hp
end
theorem y47 (a b:List AO) (i:Nat):z0s (a++b) i=if i<a.length then z0s a i else z0s b (i - a.length):=by
 induction a generalizing i with
 |nil=>simp
 |cons o r ih=>cases i with
  |zero=>simp [z0s]
  |succ n=>
   simp only [List.cons_append,z0s,ih n,List.length_cons]
   by_cases h:n<r.length
   ·rw [if_pos h,if_pos (by omega)]
   ·rw [if_neg h,if_neg (by omega)]
    congr 1; omega
theorem w3u (f:AO→AO) (hf:f .dead= .dead) (l:List AO) (i:Nat):z0s (l.map f) i=f (z0s l i):=by
 induction l generalizing i with
 |nil=>cases i<;>exact hf.symm
 |cons o r ih=>cases i with
  |zero=>rfl
  |succ n=>exact ih n
section
variable {P:Program}
theorem lend {g:FuncId} {args:List AV} {r:AV} {hp h1:List AO} (ha:z97 P g (lL std hp args).2 [] r h1) (hc:(lL std hp args).1=true) (hr:plV r=true) (ho:z1z (plH std h1)=true):
  z97 P g args hp (z82 (hp.length+ ·) r) (hp++h1.map (x06 (hp.length+ ·))):=⟨by
 intro ρ vs w cs hh hdm har
 let ρc:Rho:=ρ.only fun _=>false
 have hno:∀ id L,ρc id=some L→False:=fun id L hL=>by obtain ⟨a,_⟩:=z18.1 hL; cases a
 have hc0:z0e P ρc [] w:=⟨fun id L hL=>(hno id L hL).elim,fun id id' L L' hL=>(hno id L hL).elim,fun b hb=>hh.fr b hb,fun id L hL=>(hno id L hL).elim⟩
 obtain ⟨ρ',v,w',fr,hst,hfn,hlv,hv,hh',hdm',hx⟩:=ha.run ρc vs w cs hc0 (fun id hid=>by
  cases hq:ρc id with
  |none=>exact absurd hq hid
  |some L=>exact (hno id L hq).elim) ⟨by rw [y60]; exact har.1,fun i y hi=>by
   obtain ⟨x,hx,rfl,hb⟩:=y61 hp args hc i y hi
   exact v8l hh (har.2 i x hx) hb⟩
 have hold:∀ b,b<w.heap.size→w'.heap[b]?=w.heap[b]?:=by
  intro b hb
  by_cases ho:ρ.fr b
  ·exact hx.frs b ho
  ·exact hx.keep.frame b hb (fun h=>ho (z6y.1 h))
 have hfr:ρ'.fr=ρ.fr:=hx.fr
 have hk0:z5l (z0n ρ hp) (z0n ρ hp) w w':=⟨hx.keep.size,fun b hb _=>hold b hb,fun b _ h=>h,hx.keep.shape,hx.keep.drawn⟩
 have hh0:z0e P ρ hp w':=hh.of_keep hk0 fun b hb=>hold b (y23 hh hb)
 let base:=hp.length
 let f:Nat→Nat:=(base+ ·)
 let ρ2:Rho:=⟨fun id=>if id<base then ρ id else ρ' (id - base),ρ.fr⟩
 let h2:=hp++h1.map (x06 f)
 have n1:∀ id,id<base→z0s h2 id=z0s hp id:=fun id hid=>by show z0s (hp++_) id=_; rw [y47,if_pos hid]
 have n2:∀ id,base≤id→z0s h2 id=x06 f (z0s h1 (id - base)):=fun id hid=>by
  show z0s (hp++_) id=_
  rw [y47,if_neg (by show ¬ id<base; omega),w3u _ rfl]
 have r1:∀ id,id<base→ρ2 id=ρ id:=fun id hid=>by show (if id<base then _ else _)=_; rw [if_pos hid]
 have r2:∀ id,base≤id→ρ2 id=ρ' (id - base):=fun id hid=>by show (if id<base then _ else _)=_; rw [if_neg (by omega)]
 have r3:∀ j M,ρ' j=some M→ρ2 (f j)=some M:=fun j M hM=>by
  rw [r2 (f j) (Nat.le_add_right _ _)]
  show ρ' (base+j - base)=some M
  rw [Nat.add_sub_cancel_left]; exact hM
 have rlt:∀ id M,ρ id=some M→id<base:=fun id M hM=>hdm id (by rw [hM]; simp)
 have hnew:∀ j M,ρ' j=some M→(z0s h1 j).live=true→w.heap.size≤M.blk:=by
  intro j M hM hl
  rcases Nat.lt_or_ge M.blk w.heap.size with hlt|hge
  ·have hob:z0n ρ' h1 M.blk:= .inr ⟨j,M,hM,hl,rfl⟩
   have:=z6y.1 (hx.keep.own M.blk hlt hob)
   exact absurd (by rw [hfr]; exact this) (hh'.sep j M hM hl)
  ·exact hge
 have hO:∀ b,z0n ρ2 h2 b→z0n ρ hp b∨w.heap.size≤b:=by
  rintro b (hf|⟨id,M,hM,hl,rfl⟩)
  ·exact .inl (.inl hf)
  ·rcases Nat.lt_or_ge id base with hlt|hge
   ·rw [r1 id hlt] at hM; rw [n1 id hlt] at hl; exact .inl (.inr ⟨id,M,hM,hl,rfl⟩)
   ·rw [r2 id hge] at hM; rw [n2 id hge,z3i] at hl; exact .inr (hnew _ M hM hl)
 have hk:z5l (z0n ρ hp) (z0n ρ2 h2) w w':=⟨hx.keep.size,fun b hb _=>hold b hb,fun b hb h=>(hO b h).elim id fun h=>by omega,hx.keep.shape,hx.keep.drawn⟩
 have rmono:∀ id M,ρ id=some M→ρ2 id=some M:=fun id M hM=>by rw [r1 id (rlt id M hM)]; exact hM
 refine ⟨ρ2,v,w',fr,hst,hfn,hlv,x3o r3 hv hr,⟨fun id M hM=>?_,fun id id' M M' hM hM' l1 l2 e=>?_,fun b hb=>hh0.fr b hb,fun id M hM hl hb=>?_⟩,fun id hid=>?_,?_⟩
 ·rcases Nat.lt_or_ge id base with hlt|hge
  ·rw [r1 id hlt] at hM
   obtain ⟨a,b⟩:=hh.obj id M hM
   rw [n1 id hlt]
   exact ⟨Nat.lt_of_lt_of_le a hx.keep.size,b.keep hk rmono (hold _ a)⟩
  ·rw [r2 id hge] at hM
   obtain ⟨a,b⟩:=hh'.obj (id - base) M hM
   rw [n2 id hge]
   exact ⟨a,w77 r3 (x9s ho _) b⟩
 ·rcases Nat.lt_or_ge id base with hlt|hge<;>rcases Nat.lt_or_ge id' base with hlt'|hge'
  ·rw [r1 id hlt] at hM; rw [r1 id' hlt'] at hM'
   rw [n1 id hlt] at l1; rw [n1 id' hlt'] at l2
   exact hh.inj id id' M M' hM hM' l1 l2 e
  ·rw [r1 id hlt] at hM; rw [r2 id' hge'] at hM'
   rw [n1 id hlt] at l1; rw [n2 id' hge',z3i] at l2
   have a:=(hh.obj id M hM).1
   have b:=hnew _ M' hM' l2
   omega
  ·rw [r2 id hge] at hM; rw [r1 id' hlt'] at hM'
   rw [n2 id hge,z3i] at l1; rw [n1 id' hlt'] at l2
   have a:=(hh.obj id' M' hM').1
   have b:=hnew _ M hM l1
   omega
  ·rw [r2 id hge] at hM; rw [r2 id' hge'] at hM'
   rw [n2 id hge,z3i] at l1; rw [n2 id' hge',z3i] at l2
   have:=hh'.inj _ _ M M' hM hM' l1 l2 e
   omega
 ·rcases Nat.lt_or_ge id base with hlt|hge
  ·rw [r1 id hlt] at hM; rw [n1 id hlt] at hl
   exact hh.sep id M hM hl hb
  ·rw [r2 id hge] at hM; rw [n2 id hge,z3i] at hl
   exact hh'.sep _ M hM hl (by rw [hfr]; exact hb)
 ·show id<(hp++h1.map (x06 f)).length
  rw [List.length_append,List.length_map]
  rcases Nat.lt_or_ge id base with hlt|hge
  ·have:id<hp.length:=hlt
   omega
  ·rw [r2 id hge] at hid
   have:=hdm' (id - base) hid
   have e:base=hp.length:=rfl
   omega
 ·exact { os:=hx.os,tape:=hx.tape,output:=hx.output,keep:=hk,rho:=fun id hid=>r1 id hid,fr:=rfl,frs:=fun b hb=>hold b (hh.fr b hb) }⟩
end
end Go.Am
end
section
namespace Go.Am
def y7w:Nat→List (Option Nat)
 |0=>[]
 |n+1=>some n::y7w n
theorem y7v:∀ {n a:Nat},a<n→y1l (y7w n) a=true
 |0,a,h=>by omega
 |n+1,a,h=>by
  simp only [y7w,y1l,Bool.or_eq_true]
  by_cases e:a=n
  ·left; subst e; exact Nat.beq_refl _
  ·right; exact y7v (by omega)
def v34 (p:Prim) (c:Ctr) (args:List AV) (h:List AO):Option (List (Option Nat)×List Bool×Tup c.scs):=
 match w3e (w5i h c.heap 2 (y3a c.args args)) 0 c.heap with
 |σ=>bif w0e σ&&z96 h.length σ then match y2o h c.heap σ with
  |some v1=>match y9z p h σ (y7w h.length) (z7f c.heap v1).1 c.heap σ,y0x p h σ (y7w h.length) (z7f c.heap v1).1 c.args args with
   |some (c2,v2),some (c3,v3)=>match w8d c.scs (v1++(v2++v3)) with
    |some x=>some (σ,c2++c3,x)
    |none=>none
   |_,_=>none
  |none=>none
  else none
theorem x33 {P : Program} {c : Ctr} {args : List AV} {s : AS} {σ : List (Option Nat)} {cs : List Bool} {x : Tup c.scs} (h : v34 std c args s.heap = some (σ, cs, x)) (hc : z1z cs = true) {n : Nat} (hn : n ≤ s.heap.length) {r : AV} {hT' : List AO}
    (hl : (x22 std c (y5u c.scs x)).2.length ≤ hT'.length) (ha : z97 P c.g (x22 std c (y5u c.scs x)).1 (x22 std c (y5u c.scs x)).2 r hT') : z7j P n c.g args s (z82 (z4m σ s.heap.length) r) ⟨s.env, z21 (z4m σ s.heap.length) s.heap 0 hT', s.nt⟩ := by
  unfold v34 at h
  simp only at h
  generalize hσ : w3e (w5i s.heap c.heap 2 (y3a c.args args)) 0 c.heap = σ' at h
  cases hb : w0e σ' && z96 s.heap.length σ' with
  | false => rw [hb] at h; cases h
  | true =>
    rw [hb] at h; simp only [cond_true] at h
    simp only [Bool.and_eq_true] at hb
    split at h
    · rename_i v1 h1
      split at h
      · rename_i c2 v2 c3 v3 h2 h3
        split at h
        · rename_i x' hx
          cases h
          obtain ⟨q2, q3⟩ := z2r hc
          rw [y4g hx] at hl ha
          obtain ⟨a1, a2, a3⟩ := w02 s.heap c.heap σ v1 h1 (v2 ++ v3)
          refine x7u hn hb.1 hb.2 hl (fun ρ w hr => ?_) ha
          rw [← a3] at h2 h3
          have cx : w55 P ρ (ρ.lent s.heap σ) (z0n ρ s.heap) s.heap w σ (y7w s.heap.length) (z7f c.heap (v1 ++ (v2 ++ v3))).1 :=
            { hr := hr
              loc := fun i a hi => by show (match z2o σ i with | some (some a) => ρ a | _ => none) = ρ a; rw [hi]
              sub := fun b hb => hb
              out := fun a M hM hl hm => by
                rcases Nat.lt_or_ge a s.heap.length with hlt | hge
                · rw [y7v hlt] at hm; cases hm
                · rw [x3t _ _ hge] at hl; cases hl }
          obtain ⟨b1, b2⟩ := w01 cx c.heap σ (z7f c.heap (v1 ++ (v2 ++ v3))).1 c2 v2 a2 h2 q2 v3
          obtain ⟨d1, d2, d3⟩ := z48 cx c.args args c3 v3 h3 q3 []
          rw [List.append_nil] at d1 d2 d3
          refine ⟨?_, ?_, ?_⟩
          · show HOk _ _ _ _ _ _ _ (y5w std _ _ c.heap (z7f c.heap (v1 ++ (v2 ++ v3))).2).1
            rw [a1]; exact b2
          · show (z6n std _ c.args (y5w std _ _ c.heap (z7f c.heap (v1 ++ (v2 ++ v3))).2).2).1.length = _
            rw [a1, b1]; exact d2
          · show ∀ f : Nat → Value, _ → ∀ i y, (z6n std _ c.args (y5w std _ _ c.heap (z7f c.heap (v1 ++ (v2 ++ v3))).2).2).1[i]? = some y → _
            rw [a1, b1]; exact d3
        · cases h
      · cases h
    · cases h
structure CF where
 c:Ctr
 F:Prim→Tup c.scs→Option (STup (scss c.outs))
def y6h (f:Nat→Nat):List (List CK)→Nat→List (List CK)→List (List CK)
 |K,_,[]=>K
 |K,j,[]::r=>y6h f K (j+1) r
 |K,j,ck::r=>y6h f (v65 K (f j) ck) (j+1) r
def isE:List AO→Bool
 |[]=>true
 |_=>false
theorem w4c {l:List AO} (h:isE l=true):l=[]:=by cases l<;>first|rfl|cases h
def w8u (p:Prim) (c:Ctr) (args:List AV) (h:List AO):Option (List Bool×Tup c.scs):=
 match v34 p c (lL p h args).2 [] with
 |some ([],cs,x)=>bif isE (x22 p c (y5u c.scs x)).2 then some ((lL p h args).1::cs,x) else none
 |_=>none
def w15 (A:Alg) (p:Prim) (Γ:List CF) (β:Type) (g:FuncId) (args:List AV) (ss:SS):Option ((AV→SS→A.Ω β)→A.Ω β):=
 match Γ with
 |[]=>none
 |cf::r=>bif Nat.beq cf.c.g g then match v34 p cf.c args ss.s.heap with
  |some (σ,cs,x)=>some fun k=>y2l A β cs (x2v A β p cf.c.outs (cf.F p x) fun _ s=>k (z82 (z4m σ ss.s.heap.length) (z2p s.s.env 0)) ⟨⟨ss.s.env,z21 (z4m σ ss.s.heap.length) ss.s.heap 0 s.s.heap,ss.s.nt⟩,y6h (z4m σ ss.s.heap.length) ss.K 0 s.K⟩)
  |none=>match w8u p cf.c args ss.s.heap with
   |some (cs,x)=>some fun k=>y2l A β cs (x2v A β p cf.c.outs (cf.F p x) fun _ s=>y2l A β (plV (z2p s.s.env 0)::plH p s.s.heap)
     (k (z82 (ss.s.heap.length+ ·) (z2p s.s.env 0)) ⟨⟨ss.s.env,ss.s.heap++s.s.heap.map (x06 (ss.s.heap.length+ ·)),ss.s.nt⟩,y6h (ss.s.heap.length+ ·) ss.K 0 s.K⟩))
   |none=>w15 A p r β g args ss
  else w15 A p r β g args ss
def GamOk (P:Program) (Γ:List CF):Prop:=∀ cf∈Γ,CtrOk P cf.c (cf.F std)
mutual
theorem y8f (f:Nat→Nat) (hf:∀ j,f j=j):∀ x:AV,z82 f x=x
 | .bptr i off=>by simp [z82,hf]
 | .ptr i j off=>by simp [z82,hf]
 | .slice i z off len cap=>by simp [z82,hf]
 | .map i=>by simp [z82,hf]
 | .yld i=>by simp [z82,hf]
 | .clo fn fs cs=>by simp [z82,y2h f hf fs,y2h f hf cs]
 | .iface t v=>by simp [z82,y8f f hf v]
 | .agg l=>by simp [z82,y2h f hf l]
 | .tuple l=>by simp [z82,y2h f hf l]
 | .bot=>rfl
 | .d x=>rfl
 | .lptr r off=>rfl
theorem y2h (f:Nat→Nat) (hf:∀ j,f j=j):∀ l:List AV,x66 f l=l
 |[]=>rfl
 |x::l=>by simp [x66,y8f f hf x,y2h f hf l]
end
theorem w73 (f:Nat→Nat) (hf:∀ j,f j=j) (o:AO):x06 f o=o:=by
 have h1:∀ l:List AV,x66 f l=l:=y2h f hf
 have h2:∀ l:List (List AV),x9o f l=l:=fun l=>by
  rw [y1f]
  induction l with
  |nil=>rfl
  |cons x l ih=>simp [h1 x,ih]
 have h3:∀ l:List (Nat×AV),v03 f l=l:=fun l=>by
  induction l with
  |nil=>rfl
  |cons x l ih=>obtain ⟨k,x⟩:=x; simp [v03,y8f f hf x,ih]
 cases o<;>simp [x06,h1,h2,h3]
theorem w3o (h:List AO) (o:AO):z1t h h.length o=h++[o]:=x46 h o
theorem y93 (f:Nat→Nat) (hf:∀ j,f j=j):∀ (hT h:List AO),z21 f h h.length hT=h++hT
 |[],h=>by simp [z21]
 |o::l,h=>by
  simp only [z21,hf,w73 f hf,w3o]
  have:=y93 f hf l (h++[o])
  rw [List.length_append,List.length_singleton] at this
  rw [this]; simp
theorem w33 {P:Program} {c:Ctr} {args:List AV} {h:List AO} {cs:List Bool} {x:Tup c.scs} (hf:w8u std c args h=some (cs,x)) (hc:z1z cs=true) {r:AV} {hT':List AO}
  (hl:(x22 std c (y5u c.scs x)).2.length≤hT'.length) (ha:z97 P c.g (x22 std c (y5u c.scs x)).1 (x22 std c (y5u c.scs x)).2 r hT'):z97 P c.g (lL std h args).2 [] r hT'∧(lL std h args).1=true:=by
 unfold w8u at hf
 split at hf
 ·rename_i cs' x' hfit
  cases he:isE (x22 std c (y5u c.scs x')).2 with
  |false=>rw [he] at hf; cases hf
  |true=>
   rw [he] at hf
   cases hf
   simp only [z1z,Bool.and_eq_true] at hc
   have hcs:=x33 (P:=P) (s:=⟨[],[],0⟩) (n:=0) hfit hc.2 (Nat.le_refl _) hl ha
   refine ⟨?_,hc.1⟩
   have hid:∀ j,z4m [] ([]:List AO).length j=j:=fun j=>by
    show (match z2o ([]:List (Option Nat)) j with|some (some a)=>a|_=>0+(j - 0))=j
    simp [z2o]
   constructor
   intro ρ vs w cs' hr hdm har
   obtain ⟨ρ',v,w',fr,b1,b2,b3,b4,b5,b6,b7⟩:=hcs.run ρ vs #[] w cs' ⟨hr,fun t=> .bot _,rfl,hdm⟩ har
   have e2:z21 (z4m [] ([]:List AO).length) [] 0 hT'=hT':=by
    have:=y93 _ hid hT' []
    simpa using this
   refine ⟨ρ',v,w',fr,b1,b2,b3,?_,?_,?_,?_⟩
   ·have b4':z02 ρ' (z0n ρ' (z21 (z4m [] ([]:List AO).length) [] 0 hT')) w' (z82 (z4m [] ([]:List AO).length) r) v:=b4
    rw [e2,y8f _ hid] at b4'; exact b4'
   ·have h3:z0e P ρ' (z21 (z4m [] ([]:List AO).length) [] 0 hT') w':=b5.heap
    rw [e2] at h3; exact h3
   ·have h3:Dom ρ' (z21 (z4m [] ([]:List AO).length) [] 0 hT'):=b5.dom
    rw [e2] at h3; exact h3
   ·have h3:Ext (· <0) ρ [] w ρ' (z21 (z4m [] ([]:List AO).length) [] 0 hT') w':=b7
    rw [e2] at h3; exact h3
 ·cases hf
theorem w5f {P:Program} {β:Type} {g:FuncId} {args:List AV} {ss:SS} {n:Nat} (hn:n≤ss.s.heap.length):∀ {Γ:List CF} (hG:GamOk P Γ) {t:(AV→SS→Option β)→Option β} {k:AV→SS→Option β} {b:β},w15 opt std Γ β g args ss=some t→t k=some b→
  ∃ r ss',n≤ss'.s.heap.length∧z3e P g∧z7j P n g args ss.s r ss'.s∧k r ss'=some b:=by
 intro Γ
 induction Γ with
 |nil=>intro hG t k b h _; cases h
 |cons cf r ih=>
  intro hG t k b h ht
  simp only [w15] at h
  cases hb:Nat.beq cf.c.g g with
  |false=>rw [hb] at h; exact ih (fun c hc=>hG c (by simp [hc])) h ht
  |true=>
   rw [hb] at h; simp only [cond_true] at h
   have:=Nat.eq_of_beq_eq_true hb; subst this
   split at h
   ·rename_i σ cs x hf
    cases h
    obtain ⟨hc,ht⟩:=z1r ht
    obtain ⟨y,hy,ht⟩:=z56 ht
    obtain ⟨g1,g2⟩:=hG cf (by simp)
    obtain ⟨g3,g4⟩:=g2 x y hy
    refine ⟨_,⟨⟨ss.s.env,z21 (z4m σ ss.s.heap.length) ss.s.heap 0 (z2k std cf.c.outs y).2.s.heap,ss.s.nt⟩,y6h (z4m σ ss.s.heap.length) ss.K 0 (z2k std cf.c.outs y).2.K⟩,?_,g1,x33 hf hc hn g3 g4,ht⟩
    exact Nat.le_trans hn (y18 _ _ _ _).1
   ·split at h
    ·rename_i cs x hf
     cases h
     obtain ⟨hc,ht⟩:=z1r ht
     obtain ⟨y,hy,ht⟩:=z56 ht
     obtain ⟨g1,g2⟩:=hG cf (by simp)
     obtain ⟨g3,g4⟩:=g2 x y hy
     obtain ⟨hpl,ht⟩:=z1r ht
     simp only [z1z,Bool.and_eq_true] at hpl
     obtain ⟨l1,l2⟩:=w33 hf hc g3 g4
     refine ⟨_,⟨⟨ss.s.env,ss.s.heap++(z2k std cf.c.outs y).2.s.heap.map (x06 (ss.s.heap.length+ ·)),ss.s.nt⟩,y6h (ss.s.heap.length+ ·) ss.K 0 (z2k std cf.c.outs y).2.K⟩,?_,g1,z7j.of_aret hn (lend l1 l2 hpl.1 hpl.2),ht⟩
     exact Nat.le_trans hn (by simp)
    ·exact ih (fun c hc=>hG c (by simp [hc])) h ht
def x67 (A:Alg) (p:Prim) (Γ:List CF) (β:Type) (g:FuncId) (args:List AV):Option ((AV→A.Ω β)→A.Ω β):=
 match Γ with
 |[]=>none
 |cf::r=>bif Nat.beq cf.c.g g&&y0w args then match v34 p cf.c args [] with
  |some (_,cs,x)=>bif isE (x22 p cf.c (y5u cf.c.scs x)).2 then some fun k=>y2l A β cs (x2v A β p cf.c.outs (cf.F p x) fun _ s=>bif isE s.s.heap&&z99 (z2p s.s.env 0) then k (z2p s.s.env 0) else A.no β 95) else x67 A p r β g args
  |none=>x67 A p r β g args
  else x67 A p r β g args
theorem z9w {f:AV→AV} {l:List AV} (h:∀ (i:Nat) (x:AV),l[i]?=some x→f x=x):l.map f=l:=by
 apply List.ext_getElem?
 intro i
 rw [List.getElem?_map]
 cases hq:l[i]? with
 |none=>rfl
 |some y=>simp [h i y hq]
theorem w3m {f:Nat→Nat} {x:AV} (h:y91 x):z82 f x=x:=by
 induction h with
 |bot=>rfl
 |d x=>rfl
 |tuple xs hx ih=>simp only [z82,z2x]; congr 1; exact z9w ih
 |agg xs hx ih=>simp only [z82,z2x]; congr 1; exact z9w ih
 |clo fn fs cs h1 h2 ih1 ih2=>simp only [z82,z2x]; rw [z9w ih1,z9w ih2]
theorem w3p {P:Program} {β:Type} {g:FuncId} {args:List AV}:∀ {Γ:List CF} (hG:GamOk P Γ) {t:(AV→Option β)→Option β} {k:AV→Option β} {b:β},x67 opt std Γ β g args=some t→t k=some b→
  ∃ r,z3e P g∧(∀ h,z97 P g args h r h)∧k r=some b:=by
 intro Γ
 induction Γ with
 |nil=>intro hG t k b h _; cases h
 |cons cf r ih=>
  intro hG t k b h ht
  simp only [x67] at h
  cases hb:Nat.beq cf.c.g g&&y0w args with
  |false=>rw [hb] at h; exact ih (fun c hc=>hG c (by simp [hc])) h ht
  |true=>
   rw [hb] at h; simp only [cond_true] at h
   simp only [Bool.and_eq_true] at hb
   have:=Nat.eq_of_beq_eq_true hb.1; subst this
   split at h
   ·rename_i σ cs x hf
    cases he:isE (x22 std cf.c (y5u cf.c.scs x)).2 with
    |false=>rw [he] at h; exact ih (fun c hc=>hG c (by simp [hc])) h ht
    |true=>
    rw [he] at h
    cases h
    obtain ⟨hc,ht⟩:=z1r ht
    obtain ⟨y,hy,ht⟩:=z56 ht
    obtain ⟨g1,g2⟩:=hG cf (by simp)
    obtain ⟨g3,g4⟩:=g2 x y hy
    cases hq:isE (z2k std cf.c.outs y).2.s.heap&&z99 (z2p (z2k std cf.c.outs y).2.s.env 0) with
    |false=>rw [hq] at ht; cases ht
    |true=>
     rw [hq] at ht
     simp only [Bool.and_eq_true] at hq
     refine ⟨_,g1,fun h=>?_,ht⟩
     have hcs:=x33 (P:=P) (s:=⟨[],[],0⟩) (n:=0) hf hc (Nat.le_refl _) g3 g4
     have hp:v0u P cf.c.g args (z2p (z2k std cf.c.outs y).2.s.env 0):=⟨fun ρ vs w cs a1 a2 a3=>by
      obtain ⟨ρ',v,w',fr,b1,b2,b3,b4,b5,b6,b7⟩:=hcs.run ρ vs #[] w cs ⟨a1,fun t=> .bot _,rfl,a2⟩ a3
      have e1:=w4c hq.1
      have e2:z21 (z4m σ ([]:List AO).length) [] 0 (z2k std cf.c.outs y).2.s.heap=[]:=by rw [e1]; rfl
      have hfree:=y31 _ hq.2
      refine ⟨ρ',v,w',fr,b1,b2,b3,?_,?_,?_,?_⟩
      ·have b4':z02 ρ' (z0n ρ' (z21 (z4m σ ([]:List AO).length) [] 0 (z2k std cf.c.outs y).2.s.heap)) w' (z82 (z4m σ ([]:List AO).length) (z2p (z2k std cf.c.outs y).2.s.env 0)) v:=b4
       rw [e2] at b4'
       have:z82 (z4m σ ([]:List AO).length) (z2p (z2k std cf.c.outs y).2.s.env 0)=z2p (z2k std cf.c.outs y).2.s.env 0:=w3m hfree
       rw [this] at b4'; exact b4'
      ·have:=b5.heap
       show z0e P ρ' [] w'
       have h3:z0e P ρ' (z21 (z4m σ ([]:List AO).length) [] 0 (z2k std cf.c.outs y).2.s.heap) w':=this
       rw [e2] at h3; exact h3
      ·have h3:Dom ρ' (z21 (z4m σ ([]:List AO).length) [] 0 (z2k std cf.c.outs y).2.s.heap):=b5.dom
       rw [e2] at h3; exact h3
      ·have h3:Ext (· <0) ρ [] w ρ' (z21 (z4m σ ([]:List AO).length) [] 0 (z2k std cf.c.outs y).2.s.heap) w':=b7
       rw [e2] at h3; exact h3⟩
     exact hp.at (z5w _ hb.2) (y31 _ hq.2) h
   ·exact ih (fun c hc=>hG c (by simp [hc])) h ht
structure LA where
 g:Nat
 pos:List Bool
 n:Nat
 ann:y9x
structure JA where
 g:Nat
 pos:List Bool
 n:Nat
 outs:x8u
structure VA where
 g:Nat
 pos:List Bool
 st:ST
def v35:List JA→Nat→List Bool→Nat→Option x8u
 |[],_,_,_=>none
 |a::l,g,pos,n=>bif Nat.beq a.g g&&Nat.beq a.n n&&y82 a.pos pos then some a.outs else v35 l g pos n
def w6q:List VA→Nat→List Bool→Option ST
 |[],_,_=>none
 |a::l,g,pos=>bif Nat.beq a.g g&&y82 a.pos pos then some a.st else w6q l g pos
def x5s (id:Nat):List AO→Bool
 |[]=>false
 | .arow es::l=>(es.any fun r=>r.any fun x=>match x with| .slice a _ _ _ _=>Nat.beq a id|_=>false)||x5s id l
 |_::l=>x5s id l
def v4d (n:Nat) (s:AS):AS:=
 ⟨y99 s.heap (fun id=>Nat.blt id n||!x5s id s.heap) s.env,z7d s.heap (fun id=>Nat.blt id n||!x5s id s.heap) 0 s.heap,s.nt⟩
theorem w4y (n:Nat) (s:AS):y3q n s (v4d n s):=
 y3q.view _ (fun id h=>by rw [Bool.or_eq_true]; exact .inl (by simpa using h)) ⟨fun _=>rfl,fun id _ h=>by rw [y98]; exact h⟩
structure Anns where
 Γ:List CF
 J:List JA
 V:List VA
def v68 (A:Alg) (p:Prim) (a:Anns):Orc A where
 call:=fun β _ _ _ _ g args ss=>w15 A p a.Γ β g args ss
 pure:=fun β _ _ _ g args _=>x67 A p a.Γ β g args
 loop:=fun _ _ _ _ _=>none
 join:=fun β n g pos body k=>match v35 a.J g pos n with
  |some os=>w8y A p n os β body k
  |none=>body β k
 view:=fun β n g pos ss k=>match w6q a.V g pos with
  |some st=>match w2x p n st ss.s with
   |some (cs,x)=>y2l A β cs (k (y3m p st x))
   |none=>match w2x p n st (v4d n ss.s) with
    |some (cs,x)=>y2l A β cs (k (y3m p st x))
    |none=>A.no β 96
  |none=>k ss
theorem w78 {P:Program} {a:Anns} (hG:GamOk P a.Γ):y9v P (v68 opt std a) where
 call:=fun β g0 pos ix n g args ss t k b h ht hn=>w5f hn hG h ht
 pure:=fun β g0 pos ix g args ss t k b h ht=>by
  obtain ⟨r,h1,h2,h3⟩:=w3p hG h ht
  exact ⟨r,h1,fun h _=>h2 h,h3⟩
 loop:=fun _ _ _ _ _ _ _ _ _ _ _ h=>by cases h
 join:=fun β n g pos body k b G hb h=>by
  simp only [v68] at h
  split at h
  ·exact w39 hb h
  ·obtain ⟨e,ss',hg,hk⟩:=hb β k b h
   exact ⟨e,ss',ss',hg,y3q.refl _ _,fun h=>h,hk⟩
 view:=fun β n g pos ss k b hn h=>by
  simp only [v68] at h
  split at h
  ·split at h
   ·rename_i cs x hx
    obtain ⟨hc,h⟩:=z1r h
    obtain ⟨v1,v2⟩:=y2n hx hc
    exact ⟨_,v1,v2,h⟩
   ·split at h
    ·rename_i cs x hx
     obtain ⟨hc,h⟩:=z1r h
     obtain ⟨v1,v2⟩:=y2n hx hc
     exact ⟨_,(w4y n ss.s).trans v1,v2,h⟩
    ·cases h
  ·exact ⟨ss,y3q.refl _ _,hn,h⟩
noncomputable def mkOrc (A : Alg) (p : Prim) (E : Env) (f : Nat) (a : Anns) : List LA → Orc A
  | [] => v68 A p a
  | l :: ls => { mkOrc A p E f a ls with
      loop := fun β n g pos ss => bif Nat.beq l.g g && (Nat.beq l.n n && (y82 l.pos pos && (w2x p n l.ann.head ss.s).isSome)) then match E.A g pos with
        | some (.loop c) => some (w8r A p (sym A p E (mkOrc A p E f a ls) f) n g pos c l.ann β ss)
        | _ => none
        else (mkOrc A p E f a ls).loop β n g pos ss }
theorem mkOrc_ok {P : Program} {E : Env} (hE : y5s P E) {f : Nat} {a : Anns} (hG : GamOk P a.Γ) : ∀ ls, y9v P (mkOrc opt std E f a ls)
  | [] => w78 hG
  | l :: ls => by
    have ih := mkOrc_ok hE (f := f) hG ls
    exact { call := ih.call, pure := ih.pure, join := ih.join, view := ih.view
            loop := fun β n g pos c ss t k b hcd hn h ht => by
              simp only [mkOrc] at h
              cases hb : Nat.beq l.g g && (Nat.beq l.n n && (y82 l.pos pos && (w2x std n l.ann.head ss.s).isSome)) with
              | false => rw [hb] at h; exact ih.loop _ _ _ _ _ _ _ _ _ hcd hn h ht
              | true =>
                rw [hb] at h
                simp only [cond_true] at h
                split at h
                · rename_i c' hc'
                  cases h
                  have := hE.code _ _ _ hc'
                  rw [hcd] at this; cases this
                  exact w32 (w6a hE ih f) hcd hn ht
                · cases h }
theorem enters_auto {P:Program} {g:FuncId} {b:Option w54} (h:infoOf P g=b) (hb:b.isSome=true):z3e P g:=by
 cases b with
 |none=>cases hb
 |some i=>obtain ⟨_,_,_,_,_,e⟩:=x1q h; exact e
end Go.Am
end
section
namespace Go.Am
theorem z2a {β:Type} (c:Bool) (x:Option β):opt.need β c x=if c=true then x else none:=by cases c<;>rfl
theorem z3x {β:Type} (c:Bool) (x y:Option β):opt.ask β c x y=if c=true then x else y:=by cases c<;>rfl
theorem z2w {β:Type} (x:β):opt.ret β x=some x:=rfl
theorem v7z {β:Type} (n:Nat):opt.no β n=none:=rfl
theorem z24 {α β:Type} (x:Option α) (f:α→Option β):opt.bnd α β x f=x.bind f:=rfl
theorem z3s {β:Type} (x:Option β):opt.run β x=x:=rfl
theorem z69 {α β γ:Type} (x:Option (α⊕β)) (f:α→Option γ) (g:β→Option γ):opt.alt α β γ x f g=x.bind (Sum.elim f g):=by
 cases x with
 |none=>rfl
 |some y=>cases y<;>rfl
section
variable (es l:List (List D)) (i j a b n:Nat) (x y:Int) (c d:Bool)
theorem z2t:std.len es=es.length:=rfl
theorem z1k:std.ofNat n=(n:Int):=rfl
theorem z5n:std.nat x=x.toNat:=rfl
theorem z8e:std.add a b=a+b:=rfl
theorem x88:std.leN a b=decide (a≤b):=by
 show Nat.ble a b=_
 rw [Bool.eq_iff_iff]; simp
theorem z4s:std.eqN a b=decide (a=b):=by
 show Nat.beq a b=_
 rw [Bool.eq_iff_iff]; simp
theorem w7u:std.cut es a n=(es.drop a).take n:=rfl
theorem w7t:std.rdL es i j=dL (rdD es i j):=rfl
theorem z3q:std.cmp .lss x y=decide (x<y):=rfl
theorem y4q:std.cmp .gtr x y=decide (x>y):=rfl
theorem z4a:std.cmp .geq x y=decide (x≥y):=rfl
theorem w3b:std.mm .lss x y=min x y:=by
 show (if y<x then y else x)=_
 omega
theorem x4z:std.mm .gtr x y=max x y:=by
 show (if y>x then y else x)=_
 omega
theorem y1c (ck:List CK):std.rowOk es i ck=match es[i]? with|some r=>z3c ck r|none=>false:=rfl
theorem z5j {α:Type} (u v:α):(bif c then u else v)=if c=true then u else v:=by cases c<;>rfl
theorem z00 (h1: -9223372036854775808≤x) (h2:x≤9223372036854775807):IntKind.i64.wrap x=x:=by
 have e:IntKind.i64.wrap x=if x % 18446744073709551616≥9223372036854775808 then x % 18446744073709551616 - 18446744073709551616 else x % 18446744073709551616:=by
  unfold IntKind.wrap
  simp [IntKind.signed,IntKind.bits]
 rw [e]
 split<;>omega
theorem z0b:std.ar .add .i64 x y=IntKind.i64.wrap (x+y):=rfl
theorem z0k:std.ar .sub .i64 x y=IntKind.i64.wrap (x - y):=rfl
theorem z08:std.ar .mul .i64 x y=IntKind.i64.wrap (x*y):=rfl
theorem z2u:std.ar .quo .i64 x y=IntKind.i64.wrap (x.tdiv y):=rfl
theorem z1x:std.ar .rem .i64 x y=x.tmod y:=rfl
end
end Go.Am
namespace Go.Am
theorem z3k {S R σ:Type} {b:S→Option (S⊕R)} (e:σ→S) (I:σ→Prop) (μ:σ→Nat) (f:σ→R)
  (step:∀ s,I s→(∃ s',b (e s)=some (.inl (e s'))∧I s'∧μ s'<μ s∧f s'=f s)∨b (e s)=some (.inr (f s))):∀ s,I s→z4n b (e s)=some (f s):=by
 have:∀ m s,μ s=m→I s→z4n b (e s)=some (f s):=by
  intro m
  induction m using Nat.strongRecOn with
  |_ m ih=>
   intro s hm hi
   rcases step s hi with ⟨s',h1,h2,h3,h4⟩|h1
   ·rw [z0h,h1, ←h4]; exact ih (μ s') (hm▸h3) s' rfl h2
   ·rw [z0h,h1]
 exact fun s hi=>this _ s rfl hi
theorem w0c {S R σ:Type} {b:S→Option (S⊕R)} (e:σ→S) (I:σ→Prop) (μ:σ→Nat) (Q:R→Prop)
  (step:∀ s,I s→(∃ s',b (e s)=some (.inl (e s'))∧I s'∧μ s'<μ s)∨(∃ r,b (e s)=some (.inr r)∧Q r)):∀ s,I s→∃ r,z4n b (e s)=some r∧Q r:=by
 have:∀ m s,μ s=m→I s→∃ r,z4n b (e s)=some r∧Q r:=by
  intro m
  induction m using Nat.strongRecOn with
  |_ m ih=>
   intro s hm hi
   rcases step s hi with ⟨s',h1,h2,h3⟩|⟨r,h1,h2⟩
   ·obtain ⟨r,a,b⟩:=ih (μ s') (hm▸h3) s' rfl h2
    exact ⟨r,by rw [z0h,h1]; exact a,b⟩
   ·exact ⟨r,by rw [z0h,h1],h2⟩
 exact fun s hi=>this _ s rfl hi
theorem z34 {S R τ:Type} {b:S→Option (S⊕R)} (n:Nat) (e:τ→Nat→S) (I:τ→Nat→Prop) (Q:R→Prop)
  (step:∀ t i,i<n→I t i→(∃ t',b (e t i)=some (.inl (e t' (i+1)))∧I t' (i+1))∨(∃ r,b (e t i)=some (.inr r)∧Q r))
  (stop:∀ t,I t n→∃ r,b (e t n)=some (.inr r)∧Q r) (t:τ) (i:Nat) (hi:i≤n) (h:I t i):∃ r,z4n b (e t i)=some r∧Q r:=by
 refine w0c (σ:=τ×Nat) (fun s=>e s.1 s.2) (fun s=>s.2≤n∧I s.1 s.2) (fun s=>n - s.2) Q ?_ (t,i) ⟨hi,h⟩
 rintro ⟨t,i⟩ ⟨hi,h⟩
 simp only at hi h⊢
 rcases Nat.lt_or_ge i n with hlt|hge
 ·rcases step t i hlt h with ⟨t',a,b⟩|⟨r,a,b⟩
  ·exact .inl ⟨(t',i+1),a,⟨hlt,b⟩,by simp only; omega⟩
  ·exact .inr ⟨r,a,b⟩
 ·have:i=n:=by omega
  subst this
  exact .inr (stop t h)
theorem x58 {α:Type} {l:List α} {i:Nat} {m:α} (h:l[i]?=some m):l.drop i=m::l.drop (i+1):=by
 obtain ⟨h1,h2⟩:=List.getElem?_eq_some_iff.1 h
 rw [List.drop_eq_getElem_cons h1,h2]
theorem z0l {α:Type} {l:List α} {i:Nat} (h:i<l.length):∃ m,l[i]?=some m:=⟨_,List.getElem?_eq_getElem h⟩
theorem z04 {i:Nat} (h:i<9223372036854775807):IntKind.i64.wrap ((i:Int)+1)=((i+1:Nat):Int):=by
 rw [z00]<;>omega
end Go.Am
end
section
namespace Go.Am
def le {β:Type} (a b:Option β):Prop:=∀ r,a=some r→b=some r
theorem le_refl {β:Type} (a:Option β):le a a:=fun _ h=>h
theorem z0a {β:Type} {c:Bool} {x y:Option β} (h:le x y):le (opt.need β c x) (opt.need β c y):=by
 cases c
 ·exact le_refl _
 ·exact h
theorem z0o {β:Type} {c:Bool} {x y x' y':Option β} (h1:le x x') (h2:le y y'):le (opt.ask β c x y) (opt.ask β c x' y'):=by
 cases c
 ·exact h2
 ·exact h1
theorem w0b {β:Type} {c:Bool} {x y x' y':Option β} (h1:le x x') (h2:le y y'):le (bif c then x else y) (bif c then x' else y'):=by
 cases c
 ·exact h2
 ·exact h1
theorem z1c {β:Type} {x y:Option β} (h:le x y):le (opt.run β x) (opt.run β y):=h
theorem z0f {α β:Type} {x y:Option α} {f g:α→Option β} (h1:le x y) (h2:∀ a,le (f a) (g a)):le (opt.bnd α β x f) (opt.bnd α β y g):=by
 intro r h
 cases x with
 |none=>cases h
 |some a=>
  have:=h1 a rfl
  subst this
  exact h2 a r h
theorem z06 {α β γ:Type} {x y:Option (α⊕β)} {f f':α→Option γ} {g g':β→Option γ} (h1:le x y) (h2:∀ a,le (f a) (f' a)) (h3:∀ a,le (g a) (g' a)):
  le (opt.alt α β γ x f g) (opt.alt α β γ y f' g'):=by
 intro r h
 cases x with
 |none=>cases h
 |some a=>
  have:=h1 a rfl
  subst this
  cases a with
  |inl a=>exact h2 a r h
  |inr a=>exact h3 a r h
theorem w36 {S R:Type} {b c:S→Option (S⊕R)} (h:∀ s,le (c s) (b s)):∀ (n:Nat) (s:S),le (z6l c n s) (z6l b n s):=by
 intro n
 induction n with
 |zero=>intro s r h; cases h
 |succ n ih=>
  intro s r hr
  simp only [z6l] at hr⊢
  cases hc:c s with
  |none=>rw [hc] at hr; cases hr
  |some x=>
   rw [hc] at hr; rw [h s _ hc]
   cases x with
   |inl s'=>exact ih s' r hr
   |inr r'=>exact hr
theorem w8w {S R:Type} {b c:S→Option (S⊕R)} (h:∀ s,le (c s) (b s)) (n:Nat) (s:S):le (z6l c n s) (z4n b s):=
 fun r hr=>y8v (w36 h n s r hr)
abbrev It:=∀ S R:Type,(S→Option (S⊕R))→S→Option R
noncomputable def it0:It:=fun _ _ b s=>z4n b s
def itN (n:Nat):It:=fun _ _ b s=>z6l b n s
def It.Le (i j:It):Prop:=∀ (S R:Type) (c b:S→Option (S⊕R)) (s:S),(∀ s,le (c s) (b s))→le (i S R c s) (j S R b s)
theorem v3s (n:Nat):(itN n).Le it0:=fun _ _ _ _ s h=>w8w h n s
end Go.Am
end
noncomputable section
namespace Go.Am
theorem follows_mixed:Go.Proofs.Try.prog.follows .mixedOrders=true:=by kernel_rfl
abbrev LD := List (List D)
abbrev ci : CK := .int .i64
abbrev PG := Go.Proofs.Try.prog
theorem gN {P : Program} : GamOk P [] := fun _ h => by cases h
theorem gC {P : Program} {c : Ctr} {F : Prim → Tup c.scs → Option (STup (scss c.outs))} {l : List CF} (h : CtrOk P c (F std)) (k : GamOk P l) : GamOk P (⟨c, F⟩ :: l) := fun cf hm => by
 rcases List.mem_cons.1 hm with rfl | hm
 · exact h
 · exact k cf hm
theorem okF {c : Ctr} {a : Anns} {l : List LA} {F : Prim → Tup c.scs → Option (STup (scss c.outs))} (hg : GamOk PG a.Γ) (he : (infoOf PG c.g).isSome = true) (h : ∀ (p : Prim) x, bodyRun opt p (autoEnv PG) (mkOrc opt p (autoEnv PG) 400 a l) 400 c x = F p x) : CtrOk PG c (F std) :=
 ctr_of_body (autoEnv_ok follows_mixed) (mkOrc_ok (autoEnv_ok follows_mixed) hg _) (enters_auto (b := _) rfl he) fun x => h std x
abbrev T0 := ((Int × Unit))
abbrev T1 := (Int × Unit)
abbrev T2 := ((Bool × Unit))
abbrev T3 := (Int × (Int × Unit))
abbrev T4 := ((Int × (Int × Unit)))
abbrev T5 := (((Int × Unit) ⊕ Unit))
abbrev T6 := ((Int × (Int × (Int × Unit))))
abbrev T7 := (Int × (Int × (Int × Unit)))
abbrev T8 := ((Int × (Int × (Int × (Int × Unit)))))
abbrev T9 := (Nat × (Nat × (Nat × Unit)))
abbrev T10 := (Int × (Int × (Int × (Int × Unit))))
abbrev T11 := (Bool × Unit)
abbrev T12 := (Int × (Int × (Int × (Int × (Int × (Int × (LD × (Nat × (Nat × (Int × Unit))))))))))
abbrev T13 := (Int × (Int × (Int × (Bool × (LD × Unit)))))
abbrev T14 := ((Int × (Int × (LD × (Int × Unit)))))
abbrev T15 := ((Int × (Int × (LD × (LD × (LD × (LD × Unit)))))))
abbrev T16 := (List ((D × D)) × (Int × (Int × Unit)))
abbrev T17 := (Nat × (Nat × Unit))
abbrev T18 := ((Int × (Int × (Bool × Unit))))
abbrev T19 := ((Int × (Int × (Int × (Int × (Bool × Unit))))))
abbrev T20 := (Int × (Int × (Int × (Bool × Unit))))
abbrev T21 := ((Int × (Int × (Int × (Bool × Unit)))))
abbrev T22 := ((Int × (Int × (LD × Unit))))
abbrev T23 := (Int × (LD × (LD × (Int × Unit))))
abbrev T24 := (Int × (Int × (Int × (LD × (Int × (LD × (LD × (Int × Unit))))))))
abbrev T25 := (Int × (Int × (Nat × (Nat × (LD × (LD × (Int × (Int × (LD × (Int × (LD × (LD × (LD × (LD × (LD × (Int × (Int × Unit)))))))))))))))))
abbrev T26 := (Int × (Int × (LD × (Int × (Int × Unit)))))
abbrev T27 := (Int × (Int × (Int × (Int × (Int × (Int × Unit))))))
abbrev T28 := (Int × (Int × (Int × (Bool × (Bool × Unit)))))
abbrev T29 := (Int × (Int × (Nat × (Nat × (LD × (Int × (Int × Unit)))))))
abbrev T30 := (Nat × (Nat × (Nat × (Int × (Nat × (Nat × (Nat × (Int × Unit))))))))
abbrev T31 := (Nat × (Nat × (Nat × (Int × Unit))))
abbrev T32 := (Int × (Int × (Nat × (Nat × (Int × (Int × Unit))))))
abbrev T33 := ((Int × (Int × (Int × (Int × (Int × (Int × (Int × (Int × (Int × (Bool × Unit)))))))))))
abbrev T34 := (((Int × (Int × (LD × Unit))) ⊕ (Int × (Int × (LD × (LD × (LD × (LD × Unit))))))))
abbrev T35 := (((Int × (Int × (Int × Unit))) ⊕ ((Int × (Int × (LD × Unit))) ⊕ (Int × (Int × (LD × (LD × (LD × (LD × Unit)))))))))
abbrev T36 := (Int × (Int × (Int × (LD × (LD × (Int × (Int × Unit)))))))
abbrev T37 := (Int × (Int × (Int × (LD × (LD × Unit)))))
abbrev T38 := (Int × (Int × (Int × (LD × (LD × (LD × (Int × (Int × Unit))))))))
abbrev T39 := ((Int × (Int × (Int × (Int × (LD × (LD × (LD × (LD × (LD × (LD × (LD × (Int × (Int × (Int × (Int × (Int × (Int × (Int × (Int × (LD × Unit)))))))))))))))))))))
abbrev T40 := ((Int × (Int × (Int × (Int × (LD × (LD × (LD × (LD × (LD × (LD × (LD × Unit))))))))))))
abbrev T41 := (Int × (Int × (Int × (Int × (Nat × (Nat × (Int × Unit)))))))
abbrev T42 := (Int × (Int × (Nat × (Nat × (LD × (LD × (LD × (LD × (LD × (LD × (Int × (LD × (Int × (Int × Unit))))))))))))))
abbrev T43 := (Int × (Int × (Nat × (Nat × (LD × (LD × (LD × (LD × (Int × Unit)))))))))
abbrev T44 := (List ((D × D)) × (Int × (Int × (Int × (Int × (Int × Unit))))))
abbrev T45 := (List ((D × D)) × (Int × (LD × (LD × (LD × (Int × (Int × (Nat × (Nat × (Nat × (Int × (Int × Unit))))))))))))
abbrev T46 := ((Bool × Unit) ⊕ Unit)
abbrev T47 := (Int × (Int × (Int × (LD × (Int × (Int × Unit))))))
abbrev T48 := ((Int × (Int × (Int × (Int × (Int × (Int × (Bool × Unit))))))))
abbrev T49 := ((Int × (Int × (Int × (Int × (LD × (LD × (LD × (LD × (LD × (LD × (LD × (Int × (Int × (Int × (Int × Unit))))))))))))))))
abbrev T50 := (Int × (LD × (Int × (Int × Unit))))
abbrev T51 := ((Int × (Int × (Int × (Int × (Bool × (Bool × (Bool × Unit))))))))
abbrev T52 := ((Int × (Int × (Int × (Int × (Int × (Int × (LD × (Int × (Int × (Int × (Int × (Int × Unit)))))))))))))
abbrev T53 := ((Int × (Int × (Int × (Int × (LD × (Int × (Int × (Int × (Int × (Int × Unit)))))))))))
abbrev T54 := (Int × (Int × (Int × (Int × (Int × (Int × (LD × (Nat × (Nat × Unit)))))))))
abbrev T55 := (Int × (Int × (LD × (Nat × (Nat × Unit)))))
abbrev T56 := (Int × (Int × (Int × (Int × (LD × (Nat × (Nat × (Bool × Unit))))))))
abbrev T57 := ((Int × (Int × (Int × (LD × (Int × (Int × Unit)))))))
abbrev T58 := ((Int × (Int × (Int × (LD × (Int × (Int × (Bool × Unit))))))))
abbrev T59 := ((Int × (Int × (Int × (LD × Unit)))))
abbrev T60 := (Nat × (Nat × (Nat × (Int × (Int × Unit)))))
abbrev T61 := (Int × (LD × (LD × (Int × (LD × (Int × (Int × Unit)))))))
abbrev T62 := (Int × (Int × (Int × (Bool × (LD × (LD × (Int × (Int × Unit))))))))
abbrev T63 := (Int × (Int × (Int × (Bool × (LD × (Int × (Int × (Int × (Int × (Bool × Unit))))))))))
abbrev T64 := ((Int × (Int × (Int × (Int × (Int × (Int × (Int × (Int × (Int × (Int × Unit)))))))))))
abbrev T65 := (Int × (Int × (LD × (LD × (Int × (Int × Unit))))))
abbrev T66 := ((Int × (Int × (LD × (LD × (Int × (Int × Unit)))))) ⊕ ((Int × (Int × (Int × Unit))) ⊕ (Int × (Int × Unit))))
abbrev T67 := ((Int × (Int × (Int × (LD × (Int × (Int × Unit)))))) ⊕ (Int × Unit))
abbrev T68 := (Int × (Int × (Int × (Int × (Int × (Int × (LD × (LD × (Bool × (Int × (Int × Unit)))))))))))
abbrev T69 := (Int × (Int × (Int × (LD × (Int × (LD × (LD × (Int × (LD × (Int × (Int × Unit)))))))))))
abbrev T70 := (Int × (Int × (Int × (Int × (Int × (LD × (LD × (LD × (Int × (Int × (LD × (Int × (Int × Unit)))))))))))))
abbrev T71 := ((Int × (Int × (Int × (Int × (LD × (LD × (LD × (LD × (LD × (LD × (LD × (LD × (LD × (LD × (LD × (LD × (Int × Unit))))))))))))))))))
abbrev T72 := ((Int × (Int × (Int × (Int × (LD × (LD × (LD × (LD × (LD × (LD × (LD × (LD × (LD × (LD × (Int × Unit))))))))))))))))
abbrev T73 := ((Int × (Int × (Int × (Int × (LD × (LD × (LD × (LD × (LD × (LD × Unit)))))))))))
abbrev T74 := (Int × (Int × (Nat × (Nat × (LD × (LD × (Int × (Int × (LD × (Int × (LD × (LD × (LD × (LD × (LD × (Int × (Int × (LD × (Int × (Int × Unit))))))))))))))))))))
abbrev T75 := (Int × (Int × (Nat × (Nat × (LD × (LD × (Int × (Int × (LD × (Int × (Int × (Int × (Int × (LD × (LD × (LD × (LD × (Int × (LD × (Int × (Int × Unit)))))))))))))))))))))
abbrev T76 := (Int × (Int × (Nat × (Nat × (LD × (LD × (Int × (Int × (LD × (LD × (LD × (LD × (Int × (LD × (Int × (Int × (LD × (Int × (Int × Unit)))))))))))))))))))
abbrev T77 := (Int × (Int × (Nat × (Nat × (LD × (LD × (Int × (Int × (LD × (LD × (LD × (LD × (Int × (LD × (Int × (Int × Unit))))))))))))))))
abbrev T78 := (Int × (Int × (Nat × (Nat × Unit))))
abbrev T79 := (Int × (Int × (Nat × (Nat × (LD × (LD × (LD × (LD × (LD × (LD × (Int × Unit)))))))))))
abbrev T80 := ((Int × (Int × (Int × (Int × (Bool × (Int × (Int × (Bool × Unit)))))))))
abbrev T81 := ((Int × (Int × (Int × (Int × (LD × (Int × (LD × (Int × (Int × (Int × Unit)))))))))))
abbrev T82 := (Int × (Int × (Int × (Int × (Int × (LD × (Int × (Int × Unit))))))))
abbrev T83 := (Int × (Int × (Int × (Int × (Int × (Int × (Int × (Int × (Int × (Int × (Bool × (Int × (Int × (Bool × Unit))))))))))))))
abbrev T84 := (Int × (Int × (LD × (Int × (Int × (Int × Unit))))))
abbrev T85 := (Int × (LD × (LD × (Int × (Int × (Bool × Unit))))))
abbrev T86 := (Int × (Int × (Int × (LD × (LD × (Int × (Int × (Bool × Unit))))))))
abbrev T87 := (Int × (Int × (LD × (Int × (Int × (Bool × Unit))))))
abbrev k0k : List (List D) := [[(D.int .i64 (0 : Int)), (D.int .i64 (0 : Int))], [(D.int .i64 (4 : Int)), (D.int .i64 (0 : Int))], [(D.int .i64 (0 : Int)), (D.int .i64 (4 : Int))]]
abbrev k1k : List (List D) := [[(D.list Bool.true 2 [[(D.int .i64 (0 : Int)), (D.int .i64 (0 : Int))], [(D.int .i64 (1 : Int)), (D.int .i64 (0 : Int))]])]]
abbrev k2k : List (List D) := [[(D.int .i64 (4 : Int)), (D.int .i64 (2 : Int))]]
abbrev k3k : List (List D) := [[(D.int .i64 (3 : Int)), (D.int .i64 (2 : Int))]]
abbrev k4k := (D.int .i64 (0 : Int))
abbrev k5k := (D.int .i64 (4 : Int))
abbrev k6k := (D.int .i64 (6 : Int))
end Go.Am
end
noncomputable section
namespace Go.Am
def w1s:Ctr:=
 ⟨103,[.int .i64, .int .i64],[],[(.ret,⟨[(0, .int .i64)],[],1⟩)]⟩
def v8i:List LA:=
 []
def v8o:List JA:=
 [⟨103,[true,false,true,true,true],0,[(AX.ret,⟨[(4, .int .i64)],[],20⟩),(AX.normal,⟨[(0, .int .i64),(1, .int .i64),(6, .bool)],[],20⟩)]⟩]
def v3w:List CF:=
 []
def u0x:Anns:=
 ⟨v3w,v8o,[]⟩
def w7j:(p:Prim)→T3→Option T0:=
 fun p x=>
 opt.alt T0 T18 _ (
 opt.run (((Int×Unit)⊕(Int×(Int×(Bool×Unit))))) (
 opt.ask _ (p.cmp .neq x.1 x.1) (
 opt.ask _ (p.cmp .neq x.2.1 x.2.1) (
 opt.ret _ (Sum.inl ((0:Int),()))) (
 opt.ret _ (Sum.inl ((-1:Int),())))) (
 opt.ret _ (Sum.inr (x.1,(x.2.1,((p.cmp .neq x.2.1 x.2.1),()))))))) (fun a=>
 opt.ret _ (a.1,())) (fun b=>
 opt.bnd T18 _ (some b) fun c=>
 opt.ask _ c.2.2.1 (
 opt.ret _ ((1:Int),())) (
 opt.ask _ (p.cmp .lss c.1 c.2.1) (
 opt.ret _ ((-1:Int),())) (
 opt.ask _ (p.cmp .gtr c.1 c.2.1) (
 opt.ret _ ((1:Int),())) (
 opt.ret _ ((0:Int),())))))
theorem v14:CtrOk PG w1s (w7j std):=okF (a:=u0x) (l:=v8i) (gN) (by kernel_rfl) fun _ _=>by kernel_rfl
def w6w:Ctr:=
 ⟨102,[.list 1],[],[(.ret,⟨[(0, .int .i64)],[],1⟩)]⟩
def v8j:List LA:=
 [⟨102,[false,true,false,true,true],0,⟨⟨[(3, .int .i64),(6, .list 1),(7, .int .i64),(8, .int .i64)],[],18⟩,[(AX.ret,⟨[(2, .int .i64)],[],18⟩),((AX.exit 0),⟨[(3, .int .i64)],[],18⟩)]⟩⟩]
def v8p:List JA:=
 []
def v3x:List CF:=
 []
def u0y:Anns:=
 ⟨v3x,v8p,[]⟩
def x2t (p:Prim):T50→Option ((Int×(LD×(Int×(Int×Unit))))⊕((Int×Unit)⊕(Int×Unit))):=
 fun a=>opt.run _ (
 opt.ask _ (p.cmp .lss a.2.2.2.1 a.2.2.1) (
 opt.need _ (p.rowOk a.2.1 (p.nat a.2.2.2.1) [ci])<|
 opt.need _ (p.cmp .geq a.2.2.2.1 (0:Int))<|
 opt.ask _ (p.cmp .neq (p.rdI a.2.1 (p.nat a.2.2.2.1) 0) a.1) (
 opt.ret _ (Sum.inr (Sum.inl ((p.rdI a.2.1 (p.nat a.2.2.2.1) 0),())))) (
 opt.ret _ (Sum.inl (a.1,(a.2.1,(a.2.2.1,((p.ar .add .i64 a.2.2.2.1 (1:Int)),()))))))) (
 opt.ret _ (Sum.inr (Sum.inr (a.1,())))))
def v32 (it:It):(p:Prim)→(LD×Unit)→Option T0:=
 fun p x=>
 opt.alt T0 T0 _ (
 it _ _ (x2t p) ((0:Int),(x.1,((p.ofNat (p.len x.1)),((0:Int),()))))) (fun a=>
 opt.ret _ (a.1,())) (fun b=>
 opt.bnd T0 _ (some b) fun c=>
 opt.ret _ (c.1,()))
def v6s:=v32 it0
theorem v7w:CtrOk PG w6w (v6s std):=okF (a:=u0y) (l:=v8j) (gN) (by kernel_rfl) fun _ _=>by kernel_rfl
def v4o:Ctr:=
 ⟨87,[.agg [.int .i64, .int .i64], .agg [.int .i64, .int .i64]],[],[(.ret,⟨[(0, .int .i64)],[],1⟩)]⟩
def la87:List LA:=
 []
def ja87:List JA:=
 []
def v89:List CF:=
 [⟨w6w,v6s⟩,⟨w1s,w7j⟩]
def an87:Anns:=
 ⟨v89,ja87,[]⟩
def g87 (it:It):(p:Prim)→T10→Option T0:=
 fun p x=>
 opt.bnd T0 _ (w7j p (x.1,(x.2.2.1,()))) fun a=>
 opt.bnd T0 _ (w7j p (x.2.1,(x.2.2.2.1,()))) fun b=>
 opt.need _ (p.and (p.leN (p.add 0 2) (p.len [[(D.int .i64 a.1)],[(D.int .i64 b.1)]])) Bool.true)<|
 opt.bnd T0 _ (v32 it p ((p.cut [[(D.int .i64 a.1)],[(D.int .i64 b.1)]] 0 2),())) fun c=>
 opt.ret _ (c.1,())
def G87:=g87 it0
theorem w4u:z3e Go.Proofs.Try.prog 87:=enters_auto (b:=_) rfl (by kernel_rfl)
theorem u1h:CtrOk PG v4o (G87 std):=okF (a:=an87) (l:=la87) (gC v7w (gC v14 (gN))) (by kernel_rfl) fun _ _=>by kernel_rfl
def w6v:Ctr:=
 ⟨106,[.agg [.int .i64, .int .i64]],[],[(.ret,⟨[(0, .bool)],[],1⟩)]⟩
def v8h:List LA:=
 []
def v8n:List JA:=
 [⟨106,[false,true],0,[(AX.normal,⟨[(2, .bool)],[],16⟩)]⟩]
def v3v:List CF:=
 []
def u0w:Anns:=
 ⟨v3v,v8n,[]⟩
def v1a:(p:Prim)→T3→Option T2:=
 fun p x=>
 opt.bnd T2 _ (
 opt.run T2 (
 opt.ask _ (p.cmp .lss x.1 (0:Int)) (
 opt.ret _ (Bool.true,())) (
 opt.ask _ (p.cmp .eql x.1 (0:Int)) (
 opt.ret _ ((p.cmp .lss x.2.1 (0:Int)),())) (
 opt.ret _ (Bool.false,()))))) fun a=>
 opt.ret _ (a.1,())
theorem v7v:CtrOk PG w6v (v1a std):=okF (a:=u0w) (l:=v8h) (gN) (by kernel_rfl) fun _ _=>by kernel_rfl
def w9y:Ctr:=
 ⟨98,[.agg [.int .i64, .int .i64], .agg [.int .i64, .int .i64]],[],[(.ret,⟨[(0, .int .i64)],[],1⟩)]⟩
def la98:List LA:=
 []
def ja98:List JA:=
 [⟨98,[false,false,true,false,true],0,[(AX.normal,⟨[(2, .bptr 0 0),(3, .bptr 1 0),(5, .bool),(6, .bool),(11, .bool)],[.box [.int .i64, .int .i64], .box [.int .i64, .int .i64]],27⟩)]⟩,
 ⟨98,[true,false,true,false,true],0,[(AX.ret,⟨[(4, .int .i64)],[],27⟩),(AX.normal,⟨[(2, .bptr 0 0),(3, .bptr 1 0)],[.box [.int .i64, .int .i64], .box [.int .i64, .int .i64]],27⟩)]⟩,
 ⟨98,[false,true,true,false,true,false,true],0,[(AX.normal,⟨[(2, .bptr 0 0),(3, .bptr 1 0),(17, .bool)],[.box [.int .i64, .int .i64], .box [.int .i64, .int .i64]],27⟩)]⟩]
def v82:List CF:=
 [⟨w1s,w7j⟩,⟨w6v,v1a⟩]
def an98:Anns:=
 ⟨v82,ja98,[]⟩
def G98:(p:Prim)→T10→Option T0:=
 fun p x=>
 opt.bnd T2 _ (v1a p (x.1,(x.2.1,()))) fun a=>
 opt.bnd T2 _ (v1a p (x.2.2.1,(x.2.2.2.1,()))) fun b=>
 opt.bnd T51 _ (
 opt.run T51 (
 opt.ask _ a.1 (
 opt.ret _ (x.1,(x.2.1,(x.2.2.1,(x.2.2.2.1,(a.1,(b.1,((bif b.1 then Bool.false else Bool.true),())))))))) (
 opt.ret _ (x.1,(x.2.1,(x.2.2.1,(x.2.2.2.1,(a.1,(b.1,(Bool.false,())))))))))) fun c=>
 opt.alt T0 T8 _ (
 opt.run (((Int×Unit)⊕(Int×(Int×(Int×(Int×Unit)))))) (
 opt.ask _ c.2.2.2.2.2.2.1 (
 opt.ret _ (Sum.inl ((1:Int),()))) (
 opt.bnd T19 _ (
 opt.run T19 (
 opt.ask _ c.2.2.2.2.2.1 (
 opt.ret _ (c.1,(c.2.1,(c.2.2.1,(c.2.2.2.1,((bif c.2.2.2.2.1 then Bool.false else Bool.true),())))))) (
 opt.ret _ (c.1,(c.2.1,(c.2.2.1,(c.2.2.2.1,(Bool.false,())))))))) fun d=>
 opt.ask _ d.2.2.2.2.1 (
 opt.ret _ (Sum.inl ((-1:Int),()))) (
 opt.ret _ (Sum.inr (d.1,(d.2.1,(d.2.2.1,(d.2.2.2.1,()))))))))) (fun e=>
 opt.ret _ (e.1,())) (fun f=>
 opt.bnd T8 _ (some f) fun g=>
 opt.bnd T0 _ (w7j p ((0:Int),((p.ar .sub .i64 (p.ar .mul .i64 g.1 g.2.2.2.1) (p.ar .mul .i64 g.2.1 g.2.2.1)),()))) fun h=>
 opt.ret _ (h.1,()))
theorem w4t:z3e Go.Proofs.Try.prog 98:=enters_auto (b:=_) rfl (by kernel_rfl)
theorem v7o:CtrOk PG w9y (G98 std):=okF (a:=an98) (l:=la98) (gC v14 (gC v7v (gN))) (by kernel_rfl) fun _ _=>by kernel_rfl
def v4i:Ctr:=
 ⟨99,[.list 2],[],[(.ret,⟨[(0, .agg [.int .i64, .int .i64])],[],1⟩)]⟩
def la99:List LA:=
 [⟨99,[false,true,false,true,true],0,⟨⟨[(2, .bptr 0 0),(3, .bptr 1 0),(8, .list 2),(9, .int .i64),(10, .int .i64)],[.box [.int .i64, .int .i64], .box [.int .i64, .int .i64]],28⟩,[((AX.exit 0),⟨[(2, .bptr 0 0),(3, .bptr 1 0)],[.box [.int .i64, .int .i64], .box [.int .i64, .int .i64]],28⟩)]⟩⟩,
 ⟨99,[false,true,true,false,false,true,true,false,false,true,false,true,true],0,⟨⟨[(2, .bptr 0 0),(3, .bptr 1 0),(8, .list 2),(9, .int .i64),(10, .int .i64),(14, .agg [.int .i64, .int .i64]),(15, .int .i64)],[.box [.int .i64, .int .i64], .box [.int .i64, .int .i64]],28⟩,[((AX.exit 2),⟨[(2, .bptr 0 0),(3, .bptr 1 0),(8, .list 2),(9, .int .i64),(10, .int .i64)],[.box [.int .i64, .int .i64], .box [.int .i64, .int .i64]],28⟩)]⟩⟩]
def ja99:List JA:=
 [⟨99,[false,false,false,true,true,false,false,true,true,false,false,true,true,false,false,true,false,true,true],0,[(AX.normal,⟨[(2, .bptr 0 0),(3, .bptr 1 0),(6, .int .i64),(7, .int .i64),(8, .list 2),(9, .int .i64),(10, .int .i64),(14, .agg [.int .i64, .int .i64]),(15, .int .i64)],[.box [.int .i64, .int .i64], .box [.int .i64, .int .i64]],28⟩)]⟩,
 ⟨99,[true,false,false,true,true,false,false,true,true,false,false,true,true,false,false,true,false,true,true],0,[(AX.normal,⟨[(2, .bptr 0 0),(3, .bptr 1 0),(8, .list 2),(9, .int .i64),(10, .int .i64),(14, .agg [.int .i64, .int .i64]),(15, .int .i64)],[.box [.int .i64, .int .i64], .box [.int .i64, .int .i64]],28⟩)]⟩]
def v81:List CF:=
 []
def an99:Anns:=
 ⟨v81,ja99,[]⟩
def x2q (p:Prim):(Int×(Int×(Int×(Int×(LD×(Int×(Int×(Int×(Int×(Int×Unit))))))))))→Option ((Int×(Int×(Int×(Int×(LD×(Int×(Int×(Int×(Int×(Int×Unit))))))))))⊕(Int×(Int×(Int×(Int×(LD×(Int×(Int×Unit)))))))):=
 fun a=>opt.run _ (
 opt.ask _ (p.cmp .lss a.2.2.2.2.2.2.2.2.2.1 (2:Int)) (
 opt.bnd T52 _ (
 opt.run T52 (
 opt.ask _ (p.cmp .eql a.2.2.2.2.2.2.2.2.2.1 (0:Int)) (
 opt.need _ (bif (p.cmp .geq (0:Int) (0:Int)) then (p.cmp .lss (0:Int) (p.ofNat 2)) else Bool.false)<|
 opt.ret _ (a.1,(a.2.1,(a.2.2.1,(a.2.2.2.1,(a.2.2.2.2.2.2.2.2.2.1,(a.2.2.2.2.2.2.2.1,(a.2.2.2.2.1,(a.2.2.2.2.2.1,(a.2.2.2.2.2.2.1,(a.2.2.2.2.2.2.2.1,(a.2.2.2.2.2.2.2.2.1,((0:Int),()))))))))))))) (
 opt.need _ (p.cmp .eql a.2.2.2.2.2.2.2.2.2.1 (1:Int))<|
 opt.need _ (bif (p.cmp .geq (1:Int) (0:Int)) then (p.cmp .lss (1:Int) (p.ofNat 2)) else Bool.false)<|
 opt.ret _ (a.1,(a.2.1,(a.2.2.1,(a.2.2.2.1,(a.2.2.2.2.2.2.2.2.2.1,(a.2.2.2.2.2.2.2.2.1,(a.2.2.2.2.1,(a.2.2.2.2.2.1,(a.2.2.2.2.2.2.1,(a.2.2.2.2.2.2.2.1,(a.2.2.2.2.2.2.2.2.1,((1:Int),()))))))))))))))) fun b=>
 opt.bnd T53 _ (
 opt.run T53 (
 opt.ask _ (p.cmp .eql b.2.2.2.2.1 (0:Int)) (
 opt.need _ (bif (p.cmp .geq (0:Int) (0:Int)) then (p.cmp .lss (0:Int) (p.ofNat 2)) else Bool.false)<|
 opt.ask _ (p.cmp .eql (0:Int) (0:Int)) (
 opt.need _ (bif (p.cmp .geq (0:Int) (0:Int)) then (p.cmp .lss (0:Int) (p.ofNat 2)) else Bool.false)<|
 opt.ret _ (b.1,(b.2.1,((p.ar .add .i64 b.2.2.1 b.2.2.2.2.2.1),(b.2.2.2.1,(b.2.2.2.2.2.2.1,(b.2.2.2.2.2.2.2.1,(b.2.2.2.2.2.2.2.2.1,(b.2.2.2.2.2.2.2.2.2.1,(b.2.2.2.2.2.2.2.2.2.2.1,(b.2.2.2.2.2.2.2.2.2.2.2.1,()))))))))))) (
 opt.need _ (p.cmp .eql (0:Int) (1:Int))<|
 opt.need _ (bif (p.cmp .geq (1:Int) (0:Int)) then (p.cmp .lss (1:Int) (p.ofNat 2)) else Bool.false)<|
 opt.ret _ (b.1,(b.2.1,(b.2.2.1,((p.ar .add .i64 b.2.2.1 b.2.2.2.2.2.1),(b.2.2.2.2.2.2.1,(b.2.2.2.2.2.2.2.1,(b.2.2.2.2.2.2.2.2.1,(b.2.2.2.2.2.2.2.2.2.1,(b.2.2.2.2.2.2.2.2.2.2.1,(b.2.2.2.2.2.2.2.2.2.2.2.1,())))))))))))) (
 opt.need _ (p.cmp .eql b.2.2.2.2.1 (1:Int))<|
 opt.need _ (bif (p.cmp .geq (1:Int) (0:Int)) then (p.cmp .lss (1:Int) (p.ofNat 2)) else Bool.false)<|
 opt.ask _ (p.cmp .eql (1:Int) (0:Int)) (
 opt.need _ (bif (p.cmp .geq (0:Int) (0:Int)) then (p.cmp .lss (0:Int) (p.ofNat 2)) else Bool.false)<|
 opt.ret _ (b.1,(b.2.1,((p.ar .add .i64 b.2.2.2.1 b.2.2.2.2.2.1),(b.2.2.2.1,(b.2.2.2.2.2.2.1,(b.2.2.2.2.2.2.2.1,(b.2.2.2.2.2.2.2.2.1,(b.2.2.2.2.2.2.2.2.2.1,(b.2.2.2.2.2.2.2.2.2.2.1,(b.2.2.2.2.2.2.2.2.2.2.2.1,()))))))))))) (
 opt.need _ (p.cmp .eql (1:Int) (1:Int))<|
 opt.need _ (bif (p.cmp .geq (1:Int) (0:Int)) then (p.cmp .lss (1:Int) (p.ofNat 2)) else Bool.false)<|
 opt.ret _ (b.1,(b.2.1,(b.2.2.1,((p.ar .add .i64 b.2.2.2.1 b.2.2.2.2.2.1),(b.2.2.2.2.2.2.1,(b.2.2.2.2.2.2.2.1,(b.2.2.2.2.2.2.2.2.1,(b.2.2.2.2.2.2.2.2.2.1,(b.2.2.2.2.2.2.2.2.2.2.1,(b.2.2.2.2.2.2.2.2.2.2.2.1,())))))))))))))) fun c=>
 opt.ret _ (Sum.inl (c.1,(c.2.1,(c.2.2.1,(c.2.2.2.1,(c.2.2.2.2.1,(c.2.2.2.2.2.1,(c.2.2.2.2.2.2.1,(c.2.2.2.2.2.2.2.1,(c.2.2.2.2.2.2.2.2.1,((p.ar .add .i64 c.2.2.2.2.2.2.2.2.2.1 (1:Int)),())))))))))))) (
 opt.ret _ (Sum.inr (a.1,(a.2.1,(a.2.2.1,(a.2.2.2.1,(a.2.2.2.2.1,(a.2.2.2.2.2.1,(a.2.2.2.2.2.2.1,()))))))))))
def y9o (it:It) (p:Prim):(Int×(Int×(Int×(Int×(LD×(Int×(Int×Unit)))))))→Option ((Int×(Int×(Int×(Int×(LD×(Int×(Int×Unit)))))))⊕(Int×(Int×(Int×(Int×Unit))))):=
 fun a=>opt.run _ (
 opt.ask _ (p.cmp .lss a.2.2.2.2.2.2.1 a.2.2.2.2.2.1) (
 opt.need _ (p.rowOk a.2.2.2.2.1 (p.nat a.2.2.2.2.2.2.1) [ci,ci])<|
 opt.need _ (p.cmp .geq a.2.2.2.2.2.2.1 (0:Int))<|
 opt.bnd ((Int×(Int×(Int×(Int×(LD×(Int×(Int×Unit)))))))) _ (
 it _ _ (x2q p) (a.1,(a.2.1,(a.2.2.1,(a.2.2.2.1,(a.2.2.2.2.1,(a.2.2.2.2.2.1,(a.2.2.2.2.2.2.1,((p.rdI a.2.2.2.2.1 (p.nat a.2.2.2.2.2.2.1) 0),((p.rdI a.2.2.2.2.1 (p.nat a.2.2.2.2.2.2.1) 1),((0:Int),()))))))))))) fun b=>
 opt.ret _ (Sum.inl (b.1,(b.2.1,(b.2.2.1,(b.2.2.2.1,(b.2.2.2.2.1,(b.2.2.2.2.2.1,((p.ar .add .i64 b.2.2.2.2.2.2.1 (1:Int)),()))))))))) (
 opt.ret _ (Sum.inr (a.1,(a.2.1,(a.2.2.1,(a.2.2.2.1,())))))))
def g99 (it:It):(p:Prim)→(LD×Unit)→Option T4:=
 fun p x=>
 opt.bnd T8 _ (
 it _ _ (y9o it p) ((0:Int),((0:Int),((0:Int),((0:Int),(x.1,((p.ofNat (p.len x.1)),((0:Int),())))))))) fun a=>
 opt.ret _ (a.2.2.1,(a.2.2.2.1,()))
def G99:=g99 it0
theorem ok99:CtrOk PG v4i (G99 std):=okF (a:=an99) (l:=la99) (gN) (by kernel_rfl) fun _ _=>by kernel_rfl
def w95:Ctr:=
 ⟨50,[.list 2],[],[(.ret,⟨[(0, .bool)],[],1⟩)]⟩
def la50:List LA:=
 []
def ja50:List JA:=
 [⟨50,[false,true],0,[(AX.normal,⟨[(2, .bool)],[],11⟩)]⟩]
def v9u:List CF:=
 []
def an50:Anns:=
 ⟨v9u,ja50,[]⟩
def G50:(p:Prim)→(LD×Unit)→Option T2:=
 fun p x=>
 opt.bnd T2 _ (
 opt.run T2 (
 opt.ask _ (p.cmp .gtr (p.ofNat (p.len x.1)) (0:Int)) (
 opt.ret _ ((p.cmp .leq (p.ofNat (p.len x.1)) (12:Int)),())) (
 opt.ret _ (Bool.false,())))) fun a=>
 opt.ret _ (a.1,())
theorem u1n:CtrOk PG w95 (G50 std):=okF (a:=an50) (l:=la50) (gN) (by kernel_rfl) fun _ _=>by kernel_rfl
def w45:Ctr:=
 ⟨53,[.int .i64, .int .i64, .list 2],[],[(.ret,⟨[(0, .bool)],[],1⟩)]⟩
def la53:List LA:=
 [⟨100,[false,true,false,true],2,⟨⟨[(0, .list 2),(1, .clo 83 [] [.bptr 0 0, .bptr 1 0]),(7, .int .i64),(8, .int .i64)],[.box [.int .i64], .box [.int .i64]],19⟩,[(AX.ret,⟨[(4, .int .i64)],[.box [.int .i64], .box [.int .i64]],19⟩),((AX.exit 0),⟨[],[.box [.int .i64], .box [.int .i64]],19⟩)]⟩⟩]
def ja53:List JA:=
 [⟨83,[false,true],2,[(AX.normal,⟨[(4, .bool)],[.box [.int .i64], .box [.int .i64]],21⟩)]⟩]
def v9t:List CF:=
 []
def an53:Anns:=
 ⟨v9t,ja53,[]⟩
def w5p (p:Prim):T26→Option ((Int×(Int×(LD×(Int×(Int×Unit)))))⊕((Int×(Int×(Int×Unit)))⊕(Int×(Int×Unit)))):=
 fun a=>opt.run _ (
 opt.ask _ (p.cmp .lss a.2.2.2.2.1 a.2.2.2.1) (
 opt.need _ (p.rowOk a.2.2.1 (p.nat a.2.2.2.2.1) [ci,ci])<|
 opt.need _ (p.cmp .geq a.2.2.2.2.1 (0:Int))<|
 opt.bnd T18 _ (
 opt.run T18 (
 opt.ask _ (p.cmp .lss (p.mm .lss (p.rdI a.2.2.1 (p.nat a.2.2.2.2.1) 0) (p.rdI a.2.2.1 (p.nat a.2.2.2.2.1) 1)) a.1) (
 opt.ret _ (a.1,(a.2.1,(Bool.true,())))) (
 opt.ret _ (a.1,(a.2.1,((p.cmp .gtr (p.mm .gtr (p.rdI a.2.2.1 (p.nat a.2.2.2.2.1) 0) (p.rdI a.2.2.1 (p.nat a.2.2.2.2.1) 1)) a.2.1),())))))) fun b=>
 opt.ask _ b.2.2.1 (
 opt.ret _ (Sum.inr (Sum.inl (b.1,(b.2.1,(a.2.2.2.2.1,())))))) (
 opt.ret _ (Sum.inl (b.1,(b.2.1,(a.2.2.1,(a.2.2.2.1,((p.ar .add .i64 a.2.2.2.2.1 (1:Int)),())))))))) (
 opt.ret _ (Sum.inr (Sum.inr (a.1,(a.2.1,()))))))
def g53 (it:It):(p:Prim)→(Int×(Int×(LD×Unit)))→Option T2:=
 fun p x=>
 opt.alt T6 T4 _ (
 it _ _ (w5p p) (x.1,(x.2.1,(x.2.2.1,((p.ofNat (p.len x.2.2.1)),((0:Int),())))))) (fun a=>
 opt.ret _ ((bif (p.cmp .geq a.2.2.1 (0:Int)) then Bool.false else Bool.true),())) (fun b=>
 opt.bnd T4 _ (some b) fun c=>
 opt.ret _ ((bif (p.cmp .geq (-1:Int) (0:Int)) then Bool.false else Bool.true),()))
def G53:=g53 it0
theorem v7u:CtrOk PG w45 (G53 std):=okF (a:=an53) (l:=la53) (gN) (by kernel_rfl) fun _ _=>by kernel_rfl
def w93:Ctr:=
 ⟨60,[.list 2],[],[(.ret,⟨[(0, .list 2)],[],1⟩)]⟩
def la60:List LA:=
 [⟨60,[false,true,false,true,true],0,⟨⟨[(3, .full 0 2),(9, .list 2),(10, .int .i64),(11, .int .i64)],[.row [ci,ci]],26⟩,[((AX.exit 0),⟨[(3, .full 0 2)],[.row [ci,ci]],26⟩)]⟩⟩]
def ja60:List JA:=
 []
def v9o:List CF:=
 []
def an60:Anns:=
 ⟨v9o,ja60,[]⟩
def w5n (p:Prim):(LD×(LD×T3))→Option ((LD×(LD×T3))⊕(LD×Unit)):=
 fun a=>opt.run _ (
 opt.ask _ (p.cmp .lss a.2.2.2.1 a.2.2.1) (
 opt.need _ (p.rowOk a.2.1 (p.nat a.2.2.2.1) [ci,ci])<|
 opt.need _ (p.cmp .geq a.2.2.2.1 (0:Int))<|
 opt.need _ (bif (p.cmp .geq a.2.2.2.1 (0:Int)) then (p.cmp .lss a.2.2.2.1 (p.ofNat (p.len a.1))) else Bool.false)<|
 opt.need _ (p.rowOk a.1 (p.add 0 (p.nat a.2.2.2.1)) [ci,ci])<|
 opt.need _ (p.eqN 0 0)<|
 opt.need _ (p.eqN (p.len a.1) (p.len (p.set a.1 (p.add 0 (p.nat a.2.2.2.1)) [(D.int .i64 (p.rdI a.2.1 (p.nat a.2.2.2.1) 0)),(D.int .i64 (p.rdI a.2.1 (p.nat a.2.2.2.1) 1))])))<|
 opt.need _ (p.eqN (p.len a.1) (p.len (p.set a.1 (p.add 0 (p.nat a.2.2.2.1)) [(D.int .i64 (p.rdI a.2.1 (p.nat a.2.2.2.1) 0)),(D.int .i64 (p.rdI a.2.1 (p.nat a.2.2.2.1) 1))])))<|
 opt.ret _ (Sum.inl ((p.set a.1 (p.add 0 (p.nat a.2.2.2.1)) [(D.int .i64 (p.rdI a.2.1 (p.nat a.2.2.2.1) 0)),(D.int .i64 (p.rdI a.2.1 (p.nat a.2.2.2.1) 1))]),(a.2.1,(a.2.2.1,((p.ar .add .i64 a.2.2.2.1 (1:Int)),())))))) (
 opt.need _ (p.eqN 0 0)<|
 opt.need _ (p.eqN (p.len a.1) (p.len a.1))<|
 opt.need _ (p.eqN (p.len a.1) (p.len a.1))<|
 opt.ret _ (Sum.inr (a.1,()))))
def g60 (it:It):(p:Prim)→(LD×Unit)→Option ((LD×Unit)):=
 fun p x=>
 opt.need _ (p.and (p.cmp .geq (p.ofNat (p.len x.1)) (0:Int)) (p.and (p.cmp .leq (p.ofNat (p.len x.1)) (p.ofNat (p.len x.1))) (p.cmp .leq (p.ofNat (p.len x.1)) (1000000:Int))))<|
 opt.need _ (p.eqN 0 0)<|
 opt.need _ (p.eqN (p.nat (p.ofNat (p.len x.1))) (p.len (p.rep (p.nat (p.ofNat (p.len x.1))) [k4k,k4k])))<|
 opt.need _ (p.eqN (p.nat (p.ofNat (p.len x.1))) (p.len (p.rep (p.nat (p.ofNat (p.len x.1))) [k4k,k4k])))<|
 opt.bnd ((LD×Unit)) _ (
 it _ _ (w5n p) ((p.rep (p.nat (p.ofNat (p.len x.1))) [k4k,k4k]),(x.1,((p.ofNat (p.len x.1)),((0:Int),()))))) fun a=>
 opt.need _ (p.leN (p.add 0 (p.len a.1)) (p.len a.1))<|
 opt.ret _ ((p.cut a.1 0 (p.len a.1)),())
def G60:=g60 it0
theorem u1l:CtrOk PG w93 (G60 std):=okF (a:=an60) (l:=la60) (gN) (by kernel_rfl) fun _ _=>by kernel_rfl
def v5d:Ctr:=
 ⟨20,[.list 2, .list 2],[],[(.ret,⟨[(0, .bool)],[],1⟩)]⟩
def la20:List LA:=
 [⟨20,[false,true,false,true,true],0,⟨⟨[(0, .list 2),(1, .list 2),(5, .int .i64)],[],26⟩,[(AX.ret,⟨[(4, .bool)],[],26⟩),((AX.exit 0),⟨[],[],26⟩)]⟩⟩]
def ja20:List JA:=
 []
def u0b:List CF:=
 []
def an20:Anns:=
 ⟨u0b,ja20,[]⟩
def u0t (p:Prim):(LD×(LD×T1))→Option ((LD×(LD×T1))⊕T46):=
 fun a=>opt.run _ (
 opt.ask _ (p.cmp .lss a.2.2.1 (p.ofNat (p.len a.1))) (
 opt.need _ (p.rowOk a.1 (p.nat a.2.2.1) [ci,ci])<|
 opt.need _ (p.cmp .geq a.2.2.1 (0:Int))<|
 opt.need _ (p.rowOk a.2.1 (p.nat a.2.2.1) [ci,ci])<|
 opt.need _ (p.cmp .geq a.2.2.1 (0:Int))<|
 opt.ask _ (bif (bif (p.cmp .eql (p.rdI a.1 (p.nat a.2.2.1) 0) (p.rdI a.2.1 (p.nat a.2.2.1) 0)) then (bif (p.cmp .eql (p.rdI a.1 (p.nat a.2.2.1) 1) (p.rdI a.2.1 (p.nat a.2.2.1) 1)) then Bool.true else Bool.false) else Bool.false) then Bool.false else Bool.true) (
 opt.ret _ (Sum.inr (Sum.inl (Bool.false,())))) (
 opt.ret _ (Sum.inl (a.1,(a.2.1,((p.ar .add .i64 a.2.2.1 (1:Int)),())))))) (
 opt.ret _ (Sum.inr (Sum.inr ()))))
def g20 (it:It):(p:Prim)→(LD×(LD×Unit))→Option T2:=
 fun p x=>
 opt.ask _ (p.cmp .neq (p.ofNat (p.len x.1)) (p.ofNat (p.len x.2.1))) (
 opt.ret _ (Bool.false,())) (
 opt.alt T2 (Unit) _ (
 it _ _ (u0t p) (x.1,(x.2.1,((0:Int),())))) (fun a=>
 opt.ret _ (a.1,())) (fun b=>
 opt.bnd (Unit) _ (some b) fun c=>
 opt.ret _ (Bool.true,())))
def G20:=g20 it0
theorem ok20:CtrOk PG v5d (G20 std):=okF (a:=an20) (l:=la20) (gN) (by kernel_rfl) fun _ _=>by kernel_rfl
def v5h:Ctr:=
 ⟨14,[.agg [.list 2, .list 1]],[],[(.ret,⟨[(0, .bool)],[],1⟩)]⟩
def la14:List LA:=
 [⟨14,[false,true,false,true,true],0,⟨⟨[(1, .bptr 0 0),(3, .int .i64)],[.box [.list 2, .list 1]],28⟩,[(AX.ret,⟨[(2, .bool)],[],28⟩),((AX.exit 0),⟨[],[],28⟩)]⟩⟩]
def ja14:List JA:=
 [⟨14,[false,false,true],0,[(AX.normal,⟨[(1, .bptr 0 0),(13, .bool)],[.box [.list 2, .list 1]],28⟩)]⟩]
def u0g:List CF:=
 []
def an14:Anns:=
 ⟨u0g,ja14,[]⟩
def w5s (p:Prim):(LD×(LD×T1))→Option ((LD×(LD×T1))⊕T46):=
 fun a=>opt.run _ (
 opt.ask _ (p.cmp .lss a.2.2.1 (p.ofNat (p.len a.2.1))) (
 opt.need _ (p.rowOk a.2.1 (p.nat a.2.2.1) [(CK.list 2)])<|
 opt.need _ (p.cmp .geq a.2.2.1 (0:Int))<|
 opt.ask _ (p.cmp .gtr (p.ofNat (p.len (p.rdL a.2.1 (p.nat a.2.2.1) 0))) (20:Int)) (
 opt.ret _ (Sum.inr (Sum.inl (Bool.true,())))) (
 opt.ret _ (Sum.inl (a.1,(a.2.1,((p.ar .add .i64 a.2.2.1 (1:Int)),())))))) (
 opt.ret _ (Sum.inr (Sum.inr ()))))
def g14 (it:It):(p:Prim)→(LD×(LD×Unit))→Option T2:=
 fun p x=>
 opt.bnd ((LD×(LD×T11))) _ (
 opt.run ((LD×(LD×T11))) (
 opt.ask _ (p.cmp .gtr (p.ofNat (p.len x.1)) (20:Int)) (
 opt.ret _ (x.1,(x.2.1,(Bool.true,())))) (
 opt.ret _ (x.1,(x.2.1,((p.cmp .gtr (p.ofNat (p.len x.2.1)) (8:Int)),())))))) fun a=>
 opt.ask _ a.2.2.1 (
 opt.ret _ (Bool.true,())) (
 opt.alt T2 (Unit) _ (
 it _ _ (w5s p) (a.1,(a.2.1,((0:Int),())))) (fun b=>
 opt.ret _ (b.1,())) (fun c=>
 opt.bnd (Unit) _ (some c) fun d=>
 opt.ret _ (Bool.false,())))
def G14:=g14 it0
theorem ok14:CtrOk PG v5h (G14 std):=okF (a:=an14) (l:=la14) (gN) (by kernel_rfl) fun _ _=>by kernel_rfl
def v49:Ctr:=
 ⟨31,[.int .i64, .int .i64],[],[(.ret,⟨[(0, .agg [.int .i64, .int .i64])],[],1⟩)]⟩
def la31:List LA:=
 []
def ja31:List JA:=
 []
def v96:List CF:=
 []
def an31:Anns:=
 ⟨v96,ja31,[]⟩
def G31:(p:Prim)→T3→Option T4:=
 fun p x=>
 opt.ret _ (x.1,(x.2.1,()))
theorem ok31:CtrOk PG v49 (G31 std):=okF (a:=an31) (l:=la31) (gN) (by kernel_rfl) fun _ _=>by kernel_rfl
end Go.Am
end
section
namespace Go.Am
theorem z0u:(∀ {β:Type} (c:Bool) (x:Option β),opt.need β c x=if c=true then x else none)∧(∀ {β:Type} (c:Bool) (x y:Option β),opt.ask β c x y=if c=true then x else y)∧
    (∀ {β:Type} (x:β),opt.ret β x=some x)∧(∀ {β:Type} (n:Nat),opt.no β n=none)∧(∀ {α β:Type} (x:Option α) (f:α→Option β),opt.bnd α β x f=x.bind f)∧(∀ {β:Type} (x:Option β),opt.run β x=x)∧
    (∀ {α β γ:Type} (x:Option (α⊕β)) (f:α→Option γ) (g:β→Option γ),opt.alt α β γ x f g=x.bind (Sum.elim f g))∧
    (∀ es,std.len es=es.length)∧(∀ n,std.ofNat n=(n:Int))∧(∀ x,std.nat x=x.toNat)∧(∀ a b,std.add a b=a+b)∧(∀ a b,std.leN a b=decide (a≤b))∧(∀ a b,std.eqN a b=decide (a=b))∧
    (∀ c d,std.and c d=(c&&d))∧(∀ es l,std.app es l=es++l)∧(∀ es a n,std.cut es a n=(es.drop a).take n)∧
    (∀ x y,std.cmp .lss x y=decide (x<y))∧(∀ x y,std.cmp .leq x y=decide (x≤y))∧(∀ x y,std.cmp .gtr x y=decide (x>y))∧(∀ x y,std.cmp .geq x y=decide (x≥y))∧(∀ x y,std.cmp .eql x y=decide (x=y))∧(∀ x y,std.cmp .neq x y=!decide (x=y))∧
    (∀ es i j,std.rdI es i j=dI (((es[i]?).bind (fun r=>r[j]?)).getD .nilp))∧(∀ es i j,std.rdL es i j=dL (((es[i]?).bind (fun r=>r[j]?)).getD .nilp))∧
    (∀ es i ck,std.rowOk es i ck=match es[i]? with|some r=>z3c ck r|none=>false)∧(∀ k x,std.cvt k x=k.wrap x)∧(∀ a b,std.sub a b=a - b)∧(∀ a b,std.mul a b=a*b)∧(∀ a b,std.min a b=min a b)∧
    (∀ x y,std.mm .lss x y=min x y)∧(∀ x y,std.mm .gtr x y=max x y)∧(∀ n r,std.rep n r=List.replicate n r)∧(∀ es i r,std.set es i r=es.set i r)∧(∀ es i l,std.splice es i l=es.take i++l++es.drop (i+l.length))∧
    (∀ n,Int.ofNat n=(n:Int))∧(∀ {α:Type} (c:Bool) (u v:α),(bif c then u else v)=if c=true then u else v)∧(∀ es i j,rdD es i j=((es[i]?).bind (fun r=>r[j]?)).getD .nilp):=
  ⟨z2a,z3x,z2w,v7z,z24,z3s,z69,fun _=>rfl,fun _=>rfl,fun _=>rfl,fun _ _=>rfl,x88,z4s,fun _ _=>rfl,fun _ _=>rfl,fun _ _ _=>rfl,
   fun _ _=>rfl,fun _ _=>rfl,fun _ _=>rfl,fun _ _=>rfl,fun _ _=>rfl,fun _ _=>rfl,fun _ _ _=>rfl,fun _ _ _=>rfl,fun _ _ _=>rfl,fun _ _=>rfl,fun _ _=>rfl,fun _ _=>rfl,fun _ _=>rfl,
   w3b,x4z,fun _ _=>rfl,fun _ _ _=>rfl,fun _ _ _=>rfl,fun _=>rfl,fun c u v=>z5j c u v,fun _ _ _=>rfl⟩
theorem z0v:(∀ {α β:Type} (f:α→β) (l:List α) (i:Nat),(l.map f)[i]?=Option.map f l[i]?)∧(∀ {α β:Type} (x:α) (f:α→β),Option.map f (some x)=some (f x))∧(∀ {α β:Type} (x:α) (f:α→Option β),(some x).bind f=f x)∧
  (∀ {α β:Type} (f:α→Option β),(none:Option α).bind f=none)∧(∀ {α:Type} (a b:α),(some a).getD b=a)∧(∀ {α β γ:Type} (f:α→γ) (g:β→γ) (x:α),Sum.elim f g (.inl x)=f x)∧(∀ {α β γ:Type} (f:α→γ) (g:β→γ) (x:β),Sum.elim f g (.inr x)=g x)∧
  (∀ {p:Prop} [Decidable p],(decide p=true)=p)∧(∀ h:Decidable True,@decide True h=true)∧(∀ h:Decidable False,@decide False h=false)∧(∀ b,(b&&true)=b)∧(∀ b,(true&&b)=b)∧((!true)=false)∧((!false)=true)∧
  (∀ b,((!b)=true)=(b=false))∧(∀ {p:Prop} [Decidable p],(decide p=false)↔¬ p)∧((false=true)=False)∧(∀ {α:Type} {_:Decidable True} (a b:α),(if True then a else b)=a)∧(∀ {α:Type} {_:Decidable False} (a b:α),(if False then a else b)=b)∧
  (∀ {α β:Type} (f:α→β) (l:List α),(l.map f).length=l.length)∧(∀ n:Nat,((n:Int)).toNat=n)∧(∀ {α:Type} (a:α) (l:List α),(a::l).length=l.length+1)∧(∀ {α:Type},([]:List α).length=0)∧(∀ n:Nat,0+n=n):=
 ⟨by simp,by simp,by simp,by simp,by simp,by simp,by simp,by simp,by simp,by simp,by simp,by simp,rfl,rfl,by simp,by simp,by simp,by simp,by simp,by simp,by simp,by simp,by simp,by simp⟩
end Go.Am
end
section
namespace Go.Am
def x2g (a b:Int):Int:=if a<b then -1 else if a>b then 1 else 0
theorem w2u (a b:Int):w7j std (a,b,())=some (x2g a b,()):=by
 unfold w7j x2g
 simp only [z0u,z0v,not_true]
 by_cases h1:a<b
 ·simp only [h1,if_true,Option.bind_some]
 ·by_cases h2:a>b
  ·simp only [h1,h2,if_true,if_false,Option.bind_some]
  ·simp only [h1,h2,if_false,Option.bind_some]
def x3q (x y:Int×Int):Int:=if x2g x.1 y.1≠0 then x2g x.1 y.1 else x2g x.2 y.2
theorem v00 (a b:Int):v6s std ([[.int .i64 a],[.int .i64 b]],())=some (if a≠0 then a else b,()):=by
 unfold v6s
 simp only [v32,it0]
 rw [show (z4n (x2t std) ((0:Int),[[D.int IntKind.i64 a],[D.int IntKind.i64 b]],std.ofNat (std.len [[D.int IntKind.i64 a],[D.int IntKind.i64 b]]),(0:Int),()):Option ((Int×Unit)⊕(Int×Unit)))=some (if a≠0 then Sum.inl (a,()) else if b≠0 then Sum.inl (b,()) else Sum.inr (0,())) from ?_]
 ·by_cases ha:a=0
  ·by_cases hb:b=0
   ·simp only [ha,hb,z0u,z0v,ne_eq,not_true]
   ·simp only [ha,hb,z0u,z0v,ne_eq,not_true,not_false_eq_true]
  ·simp only [ha,z0u,z0v,ne_eq,not_true,not_false_eq_true]
 ·have w1:IntKind.i64.wrap ((0:Int)+1)=1:=by decide
  have w2:IntKind.i64.wrap ((1:Int)+1)=2:=by decide
  have s0:x2t std ((0:Int),[[D.int IntKind.i64 a],[D.int IntKind.i64 b]],std.ofNat (std.len [[D.int IntKind.i64 a],[D.int IntKind.i64 b]]),(0:Int),())=if a≠0 then some (.inr (.inl (a,()))) else some (.inl ((0:Int),[[D.int IntKind.i64 a],[D.int IntKind.i64 b]],std.ofNat (std.len [[D.int IntKind.i64 a],[D.int IntKind.i64 b]]),(1:Int),())):=by
   show opt.run _ _=_
   by_cases ha:a=0
   ·subst ha; rfl
   ·simp [z0u,z0v,z3c,y7q,dI,z0b,w1,ha]
  have s1:x2t std ((0:Int),[[D.int IntKind.i64 a],[D.int IntKind.i64 b]],std.ofNat (std.len [[D.int IntKind.i64 a],[D.int IntKind.i64 b]]),(1:Int),())=if b≠0 then some (.inr (.inl (b,()))) else some (.inl ((0:Int),[[D.int IntKind.i64 a],[D.int IntKind.i64 b]],std.ofNat (std.len [[D.int IntKind.i64 a],[D.int IntKind.i64 b]]),(2:Int),())):=by
   show opt.run _ _=_
   by_cases hb:b=0
   ·subst hb; rfl
   ·simp [z0u,z0v,z3c,y7q,dI,z0b,w2,hb]
  have s2:x2t std ((0:Int),[[D.int IntKind.i64 a],[D.int IntKind.i64 b]],std.ofNat (std.len [[D.int IntKind.i64 a],[D.int IntKind.i64 b]]),(2:Int),())=some (.inr (.inr (0,()))):=by
   show opt.run _ _=_
   simp [z0u,z0v]
  rw [z0h,s0]
  by_cases ha:a=0
  ·simp only [ha,ne_eq,not_true,if_false]
   subst ha
   rw [z0h,s1]
   by_cases hb:b=0
   ·subst hb
    simp only [ne_eq,not_true,if_false]
    rw [z0h,s2]
   ·simp only [hb,ne_eq,not_false_eq_true,if_true]
  ·simp only [ha,ne_eq,not_false_eq_true,if_true]
theorem w67 (x y:Int×Int):G87 std (x.1,x.2,y.1,y.2,())=some (x3q x y,()):=by
 have h:=v00 (x2g x.1 y.1) (x2g x.2 y.2)
 unfold v6s at h
 unfold G87
 simp only [g87,z0u,z0v,w2u,List.drop_zero,List.take_succ_cons,List.take_zero,h]
 rfl
def z2n (p:Int×Int):Bool:=decide (p.1<0∨(p.1=0∧p.2<0))
theorem v0z (p:Int×Int):v1a std (p.1,p.2,())=some (z2n p,()):=by
 unfold v1a z2n
 by_cases h1:p.1<0
 ·simp only [z0u,z0v,h1,true_or]
 ·by_cases h2:p.1=0
  ·simp [z0u,z0v,h1,h2]
  ·simp only [z0u,z0v,h1,h2,false_or,false_and]
def z58 (p q:Int×Int):Int:=
 if z2n p=true∧z2n q=false then 1 else if z2n q=true∧z2n p=false then -1 else x2g 0 (p.1*q.2 - p.2*q.1)
def z1e (p:Int×Int):Prop:= -1048576≤p.1∧p.1≤1048576∧ -1048576≤p.2∧p.2≤1048576
theorem x1k {a b:Int} (h1: -1048576≤a) (h2:a≤1048576) (h3: -1048576≤b) (h4:b≤1048576): -1099511627776≤a*b∧a*b≤1099511627776:=by
 have e1:=Int.mul_nonneg (show 0≤1048576 - a by omega) (show 0≤1048576 - b by omega)
 have e2:=Int.mul_nonneg (show 0≤1048576+a by omega) (show 0≤1048576+b by omega)
 have e3:=Int.mul_nonneg (show 0≤1048576 - a by omega) (show 0≤1048576+b by omega)
 have e4:=Int.mul_nonneg (show 0≤1048576+a by omega) (show 0≤1048576 - b by omega)
 simp only [Int.sub_mul,Int.add_mul,Int.mul_sub,Int.mul_add] at e1 e2 e3 e4
 omega
theorem w2l {p q:Int×Int} (hp:z1e p) (hq:z1e q):G98 std (p.1,p.2,q.1,q.2,())=some (z58 p q,()):=by
 obtain ⟨p1,p2,p3,p4⟩:=hp
 obtain ⟨q1,q2,q3,q4⟩:=hq
 have m1:=x1k p1 p2 q3 q4
 have m2:=x1k p3 p4 q1 q2
 have w1:IntKind.i64.wrap (p.1*q.2)=p.1*q.2:=z00 _ (by omega) (by omega)
 have w2:IntKind.i64.wrap (p.2*q.1)=p.2*q.1:=z00 _ (by omega) (by omega)
 have w3:IntKind.i64.wrap (p.1*q.2 - p.2*q.1)=p.1*q.2 - p.2*q.1:=z00 _ (by omega) (by omega)
 unfold G98 z58
 cases hbp:z2n p<;>cases hbq:z2n q<;>simp [z0u,z0v,v0z,w2u,hbp,hbq,z08,z0k,w1,w2,w3]
end Go.Am
end
noncomputable section
namespace Go.Am
def v5e:Ctr:=
 ⟨18,[.agg [.list 2, .list 1]],[],[(.ret,⟨[(0, .int .i64)],[],1⟩)]⟩
def la18:List LA:=
 [⟨81,[false,true,false,true],1,⟨⟨[(0, .list 1),(1, .clo 52 [] []),(7, .int .i64),(8, .int .i64)],[.box [.list 2, .list 1]],19⟩,[(AX.ret,⟨[(4, .int .i64)],[.box [.list 2, .list 1]],19⟩),((AX.exit 0),⟨[],[.box [.list 2, .list 1]],19⟩)]⟩⟩,
 ⟨81,[false,true,false,true],1,⟨⟨[(0, .list 1),(1, .clo 54 [] []),(7, .int .i64),(8, .int .i64)],[.box [.list 2, .list 1]],19⟩,[(AX.ret,⟨[(4, .int .i64)],[.box [.list 2, .list 1]],19⟩),((AX.exit 0),⟨[],[.box [.list 2, .list 1]],19⟩)]⟩⟩]
def ja18:List JA:=
 [⟨18,[false,false,true,true],0,[(AX.normal,⟨[(26, .bool)],[],27⟩)]⟩,
 ⟨18,[false,false,true],0,[(AX.normal,⟨[(1, .bptr 0 0),(17, .bool)],[.box [.list 2, .list 1]],27⟩)]⟩]
def u0d:List CF:=
 [⟨w45,G53⟩,⟨w95,G50⟩]
def an18:Anns:=
 ⟨u0d,ja18,[]⟩
def x8k (it:It) (p:Prim):(LD×(LD×(LD×T3)))→Option ((LD×(LD×(LD×T3)))⊕((LD×(LD×T1))⊕(LD×(LD×Unit)))):=
 fun a=>opt.run _ (
 opt.ask _ (p.cmp .lss a.2.2.2.2.1 a.2.2.2.1) (
 opt.need _ (p.rowOk a.2.2.1 (p.nat a.2.2.2.2.1) [(CK.list 2)])<|
 opt.need _ (p.cmp .geq a.2.2.2.2.1 (0:Int))<|
 opt.bnd T2 _ (g53 it p ((-1000:Int),((1000:Int),((p.rdL a.2.2.1 (p.nat a.2.2.2.2.1) 0),())))) fun b=>
 opt.ask _ (bif b.1 then Bool.false else Bool.true) (
 opt.ret _ (Sum.inr (Sum.inl (a.1,(a.2.1,(a.2.2.2.2.1,())))))) (
 opt.ret _ (Sum.inl (a.1,(a.2.1,(a.2.2.1,(a.2.2.2.1,((p.ar .add .i64 a.2.2.2.2.1 (1:Int)),())))))))) (
 opt.ret _ (Sum.inr (Sum.inr (a.1,(a.2.1,()))))))
def w5r (p:Prim):(LD×(LD×(LD×T3)))→Option ((LD×(LD×(LD×T3)))⊕((LD×(LD×T1))⊕(LD×(LD×Unit)))):=
 fun a=>opt.run _ (
 opt.ask _ (p.cmp .lss a.2.2.2.2.1 a.2.2.2.1) (
 opt.need _ (p.rowOk a.2.2.1 (p.nat a.2.2.2.2.1) [(CK.list 2)])<|
 opt.need _ (p.cmp .geq a.2.2.2.2.1 (0:Int))<|
 opt.bnd T2 _ (G50 p ((p.rdL a.2.2.1 (p.nat a.2.2.2.2.1) 0),())) fun b=>
 opt.ask _ (bif b.1 then Bool.false else Bool.true) (
 opt.ret _ (Sum.inr (Sum.inl (a.1,(a.2.1,(a.2.2.2.2.1,())))))) (
 opt.ret _ (Sum.inl (a.1,(a.2.1,(a.2.2.1,(a.2.2.2.1,((p.ar .add .i64 a.2.2.2.2.1 (1:Int)),())))))))) (
 opt.ret _ (Sum.inr (Sum.inr (a.1,(a.2.1,()))))))
def g18 (it:It):(p:Prim)→(LD×(LD×Unit))→Option T0:=
 fun p x=>
 opt.bnd ((LD×(LD×T11))) _ (
 opt.run ((LD×(LD×T11))) (
 opt.bnd T2 _ (G50 p (x.1,())) fun a=>
 opt.ask _ (bif a.1 then Bool.false else Bool.true) (
 opt.ret _ (x.1,(x.2.1,(Bool.true,())))) (
 opt.ask _ (p.cmp .gtr (p.ofNat (p.len x.2.1)) (4:Int)) (
 opt.ret _ (x.1,(x.2.1,(Bool.true,())))) (
 opt.alt ((LD×(LD×T1))) ((LD×(LD×Unit))) _ (
 it _ _ (w5r p) (x.1,(x.2.1,(x.2.1,((p.ofNat (p.len x.2.1)),((0:Int),())))))) (fun b=>
 opt.ret _ (b.1,(b.2.1,((p.cmp .geq b.2.2.1 (0:Int)),())))) (fun c=>
 opt.bnd ((LD×(LD×Unit))) _ (some c) fun d=>
 opt.ret _ (d.1,(d.2.1,((p.cmp .geq (-1:Int) (0:Int)),())))))))) fun e=>
 opt.ask _ e.2.2.1 (
 opt.ret _ ((6:Int),())) (
 opt.bnd T2 _ (
 opt.run T2 (
 opt.bnd T2 _ (g53 it p ((0:Int),((1000:Int),(e.1,())))) fun f=>
 opt.ask _ (bif f.1 then Bool.false else Bool.true) (
 opt.ret _ (Bool.true,())) (
 opt.alt ((LD×(LD×T1))) ((LD×(LD×Unit))) _ (
 it _ _ (x8k it p) (e.1,(e.2.1,(e.2.1,((p.ofNat (p.len e.2.1)),((0:Int),())))))) (fun g=>
 opt.ret _ ((p.cmp .geq g.2.2.1 (0:Int)),())) (fun h=>
 opt.bnd ((LD×(LD×Unit))) _ (some h) fun i=>
 opt.ret _ ((p.cmp .geq (-1:Int) (0:Int)),()))))) fun j=>
 opt.ask _ j.1 (
 opt.ret _ ((3:Int),())) (
 opt.ret _ ((0:Int),())))
def G18:=g18 it0
theorem ok18:CtrOk PG v5e (G18 std):=okF (a:=an18) (l:=la18) (gC v7u (gC u1n (gN))) (by kernel_rfl) fun _ _=>by kernel_rfl
end Go.Am
end
noncomputable section
namespace Go.Am
def v4z:Ctr:=
 ⟨55,[.list 2],[],[(.ret,⟨[(0, .bool)],[],1⟩)]⟩
def la55:List LA:=
 []
def ja55:List JA:=
 [⟨55,[false,true],0,[(AX.normal,⟨[(2, .bool)],[],11⟩)]⟩]
def v9s:List CF:=
 []
def an55:Anns:=
 ⟨v9s,ja55,[]⟩
def G55:(p:Prim)→(LD×Unit)→Option T2:=
 fun p x=>
 opt.bnd T2 _ (
 opt.run T2 (
 opt.ask _ (p.cmp .geq (p.ofNat (p.len x.1)) (1:Int)) (
 opt.ret _ ((p.cmp .leq (p.ofNat (p.len x.1)) (12:Int)),())) (
 opt.ret _ (Bool.false,())))) fun a=>
 opt.ret _ (a.1,())
theorem ok55:CtrOk PG v4z (G55 std):=okF (a:=an55) (l:=la55) (gN) (by kernel_rfl) fun _ _=>by kernel_rfl
def v4y:Ctr:=
 ⟨56,[.list 2, .int .i64, .int .i64],[],[(.ret,⟨[(0, .bool)],[],1⟩)]⟩
def la56:List LA:=
 [⟨56,[false,true,false,true],0,⟨⟨[(0, .list 2),(1, .int .i64),(2, .int .i64),(7, .int .i64)],[],48⟩,[(AX.ret,⟨[(6, .bool)],[],48⟩),((AX.exit 0),⟨[],[],48⟩)]⟩⟩]
def ja56:List JA:=
 [⟨56,[false,false,false,true,false,false,true,false,true],0,[(AX.normal,⟨[(0, .list 2),(1, .int .i64),(2, .int .i64),(7, .int .i64),(47, .bool)],[],48⟩)]⟩]
def v9r:List CF:=
 []
def an56:Anns:=
 ⟨v9r,ja56,[]⟩
def w5o (p:Prim):(LD×T7)→Option ((LD×T7)⊕T46):=
 fun a=>opt.run _ (
 opt.ask _ (p.cmp .lss a.2.2.2.1 (p.ofNat (p.len a.1))) (
 opt.bnd ((LD×T20)) _ (
 opt.run ((LD×T20)) (
 opt.need _ (p.rowOk a.1 (p.nat a.2.2.2.1) [ci,ci])<|
 opt.need _ (p.cmp .geq a.2.2.2.1 (0:Int))<|
 opt.ask _ (p.cmp .lss (p.rdI a.1 (p.nat a.2.2.2.1) 0) a.2.1) (
 opt.ret _ (a.1,(a.2.1,(a.2.2.1,(a.2.2.2.1,(Bool.true,())))))) (
 opt.need _ (p.rowOk a.1 (p.nat a.2.2.2.1) [ci,ci])<|
 opt.need _ (p.cmp .geq a.2.2.2.1 (0:Int))<|
 opt.ask _ (p.cmp .gtr (p.rdI a.1 (p.nat a.2.2.2.1) 0) a.2.2.1) (
 opt.ret _ (a.1,(a.2.1,(a.2.2.1,(a.2.2.2.1,(Bool.true,())))))) (
 opt.need _ (p.rowOk a.1 (p.nat a.2.2.2.1) [ci,ci])<|
 opt.need _ (p.cmp .geq a.2.2.2.1 (0:Int))<|
 opt.ask _ (p.cmp .lss (p.rdI a.1 (p.nat a.2.2.2.1) 1) a.2.1) (
 opt.ret _ (a.1,(a.2.1,(a.2.2.1,(a.2.2.2.1,(Bool.true,())))))) (
 opt.need _ (p.rowOk a.1 (p.nat a.2.2.2.1) [ci,ci])<|
 opt.need _ (p.cmp .geq a.2.2.2.1 (0:Int))<|
 opt.ret _ (a.1,(a.2.1,(a.2.2.1,(a.2.2.2.1,((p.cmp .gtr (p.rdI a.1 (p.nat a.2.2.2.1) 1) a.2.2.1),())))))))))) fun b=>
 opt.ask _ b.2.2.2.2.1 (
 opt.ret _ (Sum.inr (Sum.inl (Bool.false,())))) (
 opt.ret _ (Sum.inl (b.1,(b.2.1,(b.2.2.1,((p.ar .add .i64 b.2.2.2.1 (1:Int)),()))))))) (
 opt.ret _ (Sum.inr (Sum.inr ()))))
def g56 (it:It):(p:Prim)→(LD×T3)→Option T2:=
 fun p x=>
 opt.alt T2 (Unit) _ (
 it _ _ (w5o p) (x.1,(x.2.1,(x.2.2.1,((0:Int),()))))) (fun a=>
 opt.ret _ (a.1,())) (fun b=>
 opt.bnd (Unit) _ (some b) fun c=>
 opt.ret _ (Bool.true,()))
def G56:=g56 it0
theorem ok56:CtrOk PG v4y (G56 std):=okF (a:=an56) (l:=la56) (gN) (by kernel_rfl) fun _ _=>by kernel_rfl
def v4l:Ctr:=
 ⟨90,[.agg [.int .i64, .int .i64], .agg [.int .i64, .int .i64], .agg [.int .i64, .int .i64]],[],[(.ret,⟨[(0, .int .i64)],[],1⟩)]⟩
def la90:List LA:=
 []
def ja90:List JA:=
 []
def v86:List CF:=
 []
def an90:Anns:=
 ⟨v86,ja90,[]⟩
def G90:(p:Prim)→T27→Option T0:=
 fun p x=>
 opt.ret _ ((p.ar .sub .i64 (p.ar .mul .i64 (p.ar .sub .i64 x.2.2.1 x.1) (p.ar .sub .i64 x.2.2.2.2.2.1 x.2.1)) (p.ar .mul .i64 (p.ar .sub .i64 x.2.2.2.1 x.2.1) (p.ar .sub .i64 x.2.2.2.2.1 x.1))),())
theorem ok90:CtrOk PG v4l (G90 std):=okF (a:=an90) (l:=la90) (gN) (by kernel_rfl) fun _ _=>by kernel_rfl
def v4k:Ctr:=
 ⟨91,[.agg [.int .i64, .int .i64], .agg [.int .i64, .int .i64]],[],[(.ret,⟨[(0, .int .i64)],[],1⟩)]⟩
def la91:List LA:=
 []
def ja91:List JA:=
 []
def v85:List CF:=
 []
def an91:Anns:=
 ⟨v85,ja91,[]⟩
def G91:(p:Prim)→T10→Option T0:=
 fun p x=>
 opt.ret _ ((p.ar .add .i64 (p.ar .mul .i64 (p.ar .sub .i64 x.1 x.2.2.1) (p.ar .sub .i64 x.1 x.2.2.1)) (p.ar .mul .i64 (p.ar .sub .i64 x.2.1 x.2.2.2.1) (p.ar .sub .i64 x.2.1 x.2.2.2.1))),())
theorem ok91:CtrOk PG v4k (G91 std):=okF (a:=an91) (l:=la91) (gN) (by kernel_rfl) fun _ _=>by kernel_rfl
def v4x:Ctr:=
 ⟨61,[.list 2],[],[(.ret,⟨[(0, .list 2)],[],1⟩)]⟩
def la61:List LA:=
 [⟨61,[false,true,false,true,true],0,⟨⟨[(0, .list 2),(3, .bptr 0 0),(4, .int .i64)],[.box [.int .i64, .int .i64]],119⟩,[((AX.exit 0),⟨[(0, .list 2),(3, .bptr 0 0)],[.box [.int .i64, .int .i64]],119⟩)]⟩⟩,
 ⟨61,[false,true,true,true,true],0,⟨⟨[(0, .list 2),(3, .bptr 0 0),(5, .sl 1 2)],[.box [.int .i64, .int .i64], .row [ci,ci]],119⟩,[(AX.ret,⟨[(2, .sl 0 2)],[.row [ci,ci]],119⟩)]⟩⟩,
 ⟨61,[false,true,false,true,true,false,false,false,true,true,true,true],0,⟨⟨[(0, .list 2),(3, .bptr 0 0),(5, .sl 1 2),(6, .bptr 2 0),(7, .bptr 3 0),(8, .int .i64)],[.box [.int .i64, .int .i64], .row [ci,ci], .box [.int .i64, .int .i64], .box [.int .i64, .int .i64]],119⟩,[((AX.exit 4),⟨[(0, .list 2),(3, .bptr 0 0),(5, .sl 1 2),(6, .bptr 2 0),(7, .bptr 3 0)],[.box [.int .i64, .int .i64], .row [ci,ci], .box [.int .i64, .int .i64], .box [.int .i64, .int .i64]],119⟩)]⟩⟩]
def ja61:List JA:=
 [⟨61,[false,true,false,false,true,false,true,true],0,[(AX.normal,⟨[(0, .list 2),(3, .bptr 0 0),(4, .int .i64)],[.box [.int .i64, .int .i64]],119⟩)]⟩,
 ⟨61,[false,false,true,true,true,false,false,false,true,true,true,true],0,[(AX.normal,⟨[(0, .list 2),(3, .bptr 0 0),(5, .sl 1 2),(7, .bptr 2 0),(113, .bool)],[.box [.int .i64, .int .i64], .row [ci,ci], .box [.int .i64, .int .i64]],119⟩)]⟩,
 ⟨61,[true,false,false,true,false,false,true,false,true,true],0,[(AX.normal,⟨[(0, .list 2),(3, .bptr 0 0),(4, .int .i64)],[.box [.int .i64, .int .i64]],119⟩)]⟩,
 ⟨61,[false,true,false,false,true,false,true,true,false,false,false,true,true,true,true],0,[(AX.normal,⟨[(0, .list 2),(3, .bptr 0 0),(5, .sl 1 2),(6, .bptr 2 0),(7, .bptr 3 0),(8, .int .i64)],[.box [.int .i64, .int .i64], .row [ci,ci], .box [.int .i64, .int .i64], .box [.int .i64, .int .i64]],119⟩)]⟩,
 ⟨61,[true,true,true,false,false,true,false,false,true,false,true,true,false,false,false,true,true,true,true],0,[(AX.normal,⟨[(0, .list 2),(3, .bptr 0 0),(5, .sl 1 2),(6, .bptr 2 0),(7, .bptr 3 0),(8, .int .i64)],[.box [.int .i64, .int .i64], .row [ci,ci], .box [.int .i64, .int .i64], .box [.int .i64, .int .i64]],119⟩)]⟩]
def v9n:List CF:=
 [⟨v4k,G91⟩,⟨v4l,G90⟩]
def an61:Anns:=
 ⟨v9n,ja61,[]⟩
def z5k (p:Prim):(LD×T12)→Option ((LD×T12)⊕(LD×T54)):=
 fun a=>opt.run _ (
 opt.ask _ (p.cmp .lss a.2.2.2.2.2.2.2.2.2.2.1 (p.ofNat (p.len a.2.2.2.2.2.2.2.1))) (
 opt.bnd ((LD×T12)) _ (
 opt.run ((LD×T12)) (
 opt.need _ (p.rowOk a.2.2.2.2.2.2.2.1 (p.nat a.2.2.2.2.2.2.2.2.2.2.1) [ci,ci])<|
 opt.need _ (p.cmp .geq a.2.2.2.2.2.2.2.2.2.2.1 (0:Int))<|
 opt.ask _ (bif (p.cmp .eql (p.rdI a.2.2.2.2.2.2.2.1 (p.nat a.2.2.2.2.2.2.2.2.2.2.1) 0) a.2.2.2.1) then (bif (p.cmp .eql (p.rdI a.2.2.2.2.2.2.2.1 (p.nat a.2.2.2.2.2.2.2.2.2.2.1) 1) a.2.2.2.2.1) then Bool.true else Bool.false) else Bool.false) (
 opt.ret _ (a.1,(a.2.1,(a.2.2.1,(a.2.2.2.1,(a.2.2.2.2.1,(a.2.2.2.2.2.1,(a.2.2.2.2.2.2.1,(a.2.2.2.2.2.2.2.1,(a.2.2.2.2.2.2.2.2.1,(a.2.2.2.2.2.2.2.2.2.1,(a.2.2.2.2.2.2.2.2.2.2.1,())))))))))))) (
 opt.need _ (p.rowOk a.2.2.2.2.2.2.2.1 (p.nat a.2.2.2.2.2.2.2.2.2.2.1) [ci,ci])<|
 opt.need _ (p.cmp .geq a.2.2.2.2.2.2.2.2.2.2.1 (0:Int))<|
 opt.bnd T0 _ (G90 p (a.2.2.2.1,(a.2.2.2.2.1,(a.2.2.2.2.2.1,(a.2.2.2.2.2.2.1,((p.rdI a.2.2.2.2.2.2.2.1 (p.nat a.2.2.2.2.2.2.2.2.2.2.1) 0),((p.rdI a.2.2.2.2.2.2.2.1 (p.nat a.2.2.2.2.2.2.2.2.2.2.1) 1),()))))))) fun b=>
 opt.ask _ (bif (p.cmp .eql a.2.2.2.2.2.1 a.2.2.2.1) then (bif (p.cmp .eql a.2.2.2.2.2.2.1 a.2.2.2.2.1) then Bool.true else Bool.false) else Bool.false) (
 opt.bnd ((LD×T12)) _ (
 opt.run ((LD×T12)) (
 opt.need _ (p.rowOk a.2.2.2.2.2.2.2.1 (p.nat a.2.2.2.2.2.2.2.2.2.2.1) [ci,ci])<|
 opt.need _ (p.cmp .geq a.2.2.2.2.2.2.2.2.2.2.1 (0:Int))<|
 opt.ret _ (a.1,(a.2.1,(a.2.2.1,(a.2.2.2.1,(a.2.2.2.2.1,((p.rdI a.2.2.2.2.2.2.2.1 (p.nat a.2.2.2.2.2.2.2.2.2.2.1) 0),((p.rdI a.2.2.2.2.2.2.2.1 (p.nat a.2.2.2.2.2.2.2.2.2.2.1) 1),(a.2.2.2.2.2.2.2.1,(a.2.2.2.2.2.2.2.2.1,(a.2.2.2.2.2.2.2.2.2.1,(a.2.2.2.2.2.2.2.2.2.2.1,()))))))))))))) fun c=>
 opt.ret _ (c.1,(c.2.1,(c.2.2.1,(c.2.2.2.1,(c.2.2.2.2.1,(c.2.2.2.2.2.1,(c.2.2.2.2.2.2.1,(c.2.2.2.2.2.2.2.1,(c.2.2.2.2.2.2.2.2.1,(c.2.2.2.2.2.2.2.2.2.1,(c.2.2.2.2.2.2.2.2.2.2.1,())))))))))))) (
 opt.ask _ (p.cmp .lss b.1 (0:Int)) (
 opt.bnd ((LD×T12)) _ (
 opt.run ((LD×T12)) (
 opt.need _ (p.rowOk a.2.2.2.2.2.2.2.1 (p.nat a.2.2.2.2.2.2.2.2.2.2.1) [ci,ci])<|
 opt.need _ (p.cmp .geq a.2.2.2.2.2.2.2.2.2.2.1 (0:Int))<|
 opt.ret _ (a.1,(a.2.1,(a.2.2.1,(a.2.2.2.1,(a.2.2.2.2.1,((p.rdI a.2.2.2.2.2.2.2.1 (p.nat a.2.2.2.2.2.2.2.2.2.2.1) 0),((p.rdI a.2.2.2.2.2.2.2.1 (p.nat a.2.2.2.2.2.2.2.2.2.2.1) 1),(a.2.2.2.2.2.2.2.1,(a.2.2.2.2.2.2.2.2.1,(a.2.2.2.2.2.2.2.2.2.1,(a.2.2.2.2.2.2.2.2.2.2.1,()))))))))))))) fun d=>
 opt.ret _ (d.1,(d.2.1,(d.2.2.1,(d.2.2.2.1,(d.2.2.2.2.1,(d.2.2.2.2.2.1,(d.2.2.2.2.2.2.1,(d.2.2.2.2.2.2.2.1,(d.2.2.2.2.2.2.2.2.1,(d.2.2.2.2.2.2.2.2.2.1,(d.2.2.2.2.2.2.2.2.2.2.1,())))))))))))) (
 opt.ask _ (p.cmp .eql b.1 (0:Int)) (
 opt.need _ (p.rowOk a.2.2.2.2.2.2.2.1 (p.nat a.2.2.2.2.2.2.2.2.2.2.1) [ci,ci])<|
 opt.need _ (p.cmp .geq a.2.2.2.2.2.2.2.2.2.2.1 (0:Int))<|
 opt.bnd T0 _ (G91 p (a.2.2.2.1,(a.2.2.2.2.1,((p.rdI a.2.2.2.2.2.2.2.1 (p.nat a.2.2.2.2.2.2.2.2.2.2.1) 0),((p.rdI a.2.2.2.2.2.2.2.1 (p.nat a.2.2.2.2.2.2.2.2.2.2.1) 1),()))))) fun e=>
 opt.bnd T0 _ (G91 p (a.2.2.2.1,(a.2.2.2.2.1,(a.2.2.2.2.2.1,(a.2.2.2.2.2.2.1,()))))) fun f=>
 opt.bnd ((LD×T12)) _ (
 opt.run ((LD×T12)) (
 opt.ask _ (p.cmp .gtr e.1 f.1) (
 opt.need _ (p.rowOk a.2.2.2.2.2.2.2.1 (p.nat a.2.2.2.2.2.2.2.2.2.2.1) [ci,ci])<|
 opt.need _ (p.cmp .geq a.2.2.2.2.2.2.2.2.2.2.1 (0:Int))<|
 opt.ret _ (a.1,(a.2.1,(a.2.2.1,(a.2.2.2.1,(a.2.2.2.2.1,((p.rdI a.2.2.2.2.2.2.2.1 (p.nat a.2.2.2.2.2.2.2.2.2.2.1) 0),((p.rdI a.2.2.2.2.2.2.2.1 (p.nat a.2.2.2.2.2.2.2.2.2.2.1) 1),(a.2.2.2.2.2.2.2.1,(a.2.2.2.2.2.2.2.2.1,(a.2.2.2.2.2.2.2.2.2.1,(a.2.2.2.2.2.2.2.2.2.2.1,())))))))))))) (
 opt.ret _ (a.1,(a.2.1,(a.2.2.1,(a.2.2.2.1,(a.2.2.2.2.1,(a.2.2.2.2.2.1,(a.2.2.2.2.2.2.1,(a.2.2.2.2.2.2.2.1,(a.2.2.2.2.2.2.2.2.1,(a.2.2.2.2.2.2.2.2.2.1,(a.2.2.2.2.2.2.2.2.2.2.1,())))))))))))))) fun g=>
 opt.ret _ (g.1,(g.2.1,(g.2.2.1,(g.2.2.2.1,(g.2.2.2.2.1,(g.2.2.2.2.2.1,(g.2.2.2.2.2.2.1,(g.2.2.2.2.2.2.2.1,(g.2.2.2.2.2.2.2.2.1,(g.2.2.2.2.2.2.2.2.2.1,(g.2.2.2.2.2.2.2.2.2.2.1,())))))))))))) (
 opt.bnd ((LD×T12)) _ (
 opt.run ((LD×T12)) (
 opt.ret _ (a.1,(a.2.1,(a.2.2.1,(a.2.2.2.1,(a.2.2.2.2.1,(a.2.2.2.2.2.1,(a.2.2.2.2.2.2.1,(a.2.2.2.2.2.2.2.1,(a.2.2.2.2.2.2.2.2.1,(a.2.2.2.2.2.2.2.2.2.1,(a.2.2.2.2.2.2.2.2.2.2.1,()))))))))))))) fun h=>
 opt.ret _ (h.1,(h.2.1,(h.2.2.1,(h.2.2.2.1,(h.2.2.2.2.1,(h.2.2.2.2.2.1,(h.2.2.2.2.2.2.1,(h.2.2.2.2.2.2.2.1,(h.2.2.2.2.2.2.2.2.1,(h.2.2.2.2.2.2.2.2.2.1,(h.2.2.2.2.2.2.2.2.2.2.1,()))))))))))))))))) fun i=>
 opt.ret _ (Sum.inl (i.1,(i.2.1,(i.2.2.1,(i.2.2.2.1,(i.2.2.2.2.1,(i.2.2.2.2.2.1,(i.2.2.2.2.2.2.1,(i.2.2.2.2.2.2.2.1,(i.2.2.2.2.2.2.2.2.1,(i.2.2.2.2.2.2.2.2.2.1,((p.ar .add .i64 i.2.2.2.2.2.2.2.2.2.2.1 (1:Int)),()))))))))))))) (
 opt.ret _ (Sum.inr (a.1,(a.2.1,(a.2.2.1,(a.2.2.2.1,(a.2.2.2.2.1,(a.2.2.2.2.2.1,(a.2.2.2.2.2.2.1,(a.2.2.2.2.2.2.2.1,(a.2.2.2.2.2.2.2.2.1,(a.2.2.2.2.2.2.2.2.2.1,())))))))))))))
def x4i (it:It) (p:Prim):(LD×T55)→Option ((LD×T55)⊕(LD×T17)):=
 fun a=>opt.run _ (
 opt.need _ (bif (p.cmp .geq (p.ar .sub .i64 (p.ofNat a.2.2.2.2.2.1) (1:Int)) (0:Int)) then (p.cmp .lss (p.ar .sub .i64 (p.ofNat a.2.2.2.2.2.1) (1:Int)) (p.ofNat a.2.2.2.2.2.1)) else Bool.false)<|
 opt.need _ (p.rowOk a.1 (p.add a.2.2.2.2.1 (p.nat (p.ar .sub .i64 (p.ofNat a.2.2.2.2.2.1) (1:Int)))) [ci,ci])<|
 opt.bnd ((LD×T54)) _ (
 it _ _ (z5k p) (a.1,(a.2.1,(a.2.2.1,((p.rdI a.1 (p.add a.2.2.2.2.1 (p.nat (p.ar .sub .i64 (p.ofNat a.2.2.2.2.2.1) (1:Int)))) 0),((p.rdI a.1 (p.add a.2.2.2.2.1 (p.nat (p.ar .sub .i64 (p.ofNat a.2.2.2.2.2.1) (1:Int)))) 1),((p.rdI a.1 (p.add a.2.2.2.2.1 (p.nat (p.ar .sub .i64 (p.ofNat a.2.2.2.2.2.1) (1:Int)))) 0),((p.rdI a.1 (p.add a.2.2.2.2.1 (p.nat (p.ar .sub .i64 (p.ofNat a.2.2.2.2.2.1) (1:Int)))) 1),(a.2.2.2.1,(a.2.2.2.2.1,(a.2.2.2.2.2.1,((0:Int),())))))))))))) fun b=>
 opt.bnd ((LD×T56)) _ (
 opt.run ((LD×T56)) (
 opt.ask _ (bif (p.cmp .eql b.2.2.2.2.2.1 b.2.1) then (bif (p.cmp .eql b.2.2.2.2.2.2.1 b.2.2.1) then Bool.true else Bool.false) else Bool.false) (
 opt.ret _ (b.1,(b.2.1,(b.2.2.1,(b.2.2.2.2.2.1,(b.2.2.2.2.2.2.1,(b.2.2.2.2.2.2.2.1,(b.2.2.2.2.2.2.2.2.1,(b.2.2.2.2.2.2.2.2.2.1,(Bool.true,())))))))))) (
 opt.ret _ (b.1,(b.2.1,(b.2.2.1,(b.2.2.2.2.2.1,(b.2.2.2.2.2.2.1,(b.2.2.2.2.2.2.2.1,(b.2.2.2.2.2.2.2.2.1,(b.2.2.2.2.2.2.2.2.2.1,((bif (p.cmp .eql b.2.2.2.2.2.1 b.2.2.2.1) then (bif (p.cmp .eql b.2.2.2.2.2.2.1 b.2.2.2.2.1) then Bool.true else Bool.false) else Bool.false),())))))))))))) fun c=>
 opt.ask _ c.2.2.2.2.2.2.2.2.1 (
 opt.ret _ (Sum.inr (c.1,(c.2.2.2.2.2.2.1,(c.2.2.2.2.2.2.2.1,()))))) (
 opt.need _ (p.and (p.leN (p.add 0 1) (p.len [[(D.int .i64 c.2.2.2.1),(D.int .i64 c.2.2.2.2.1)]])) (p.and (p.leN (p.add c.2.2.2.2.2.2.1 c.2.2.2.2.2.2.2.1) (p.len c.1)) (p.and (p.leN 1 1) (p.leN (p.add c.2.2.2.2.2.2.2.1 1) 1000000))))<|
 opt.ret _ (Sum.inl ((p.app (p.cut c.1 c.2.2.2.2.2.2.1 c.2.2.2.2.2.2.2.1) (p.cut [[(D.int .i64 c.2.2.2.1),(D.int .i64 c.2.2.2.2.1)]] 0 1)),(c.2.1,(c.2.2.1,(c.2.2.2.2.2.1,(0,((p.add c.2.2.2.2.2.2.2.1 1),())))))))))
def x2s (p:Prim):(Int×(Int×(LD×(Int×Unit))))→Option ((Int×(Int×(LD×(Int×Unit))))⊕(Int×(Int×(LD×Unit)))):=
 fun a=>opt.run _ (
 opt.ask _ (p.cmp .lss a.2.2.2.1 (p.ofNat (p.len a.2.2.1))) (
 opt.bnd T14 _ (
 opt.run T14 (
 opt.need _ (p.rowOk a.2.2.1 (p.nat a.2.2.2.1) [ci,ci])<|
 opt.need _ (p.cmp .geq a.2.2.2.1 (0:Int))<|
 opt.ask _ (p.cmp .lss (p.rdI a.2.2.1 (p.nat a.2.2.2.1) 0) a.1) (
 opt.bnd T14 _ (
 opt.run T14 (
 opt.need _ (p.rowOk a.2.2.1 (p.nat a.2.2.2.1) [ci,ci])<|
 opt.need _ (p.cmp .geq a.2.2.2.1 (0:Int))<|
 opt.ret _ ((p.rdI a.2.2.1 (p.nat a.2.2.2.1) 0),((p.rdI a.2.2.1 (p.nat a.2.2.2.1) 1),(a.2.2.1,(a.2.2.2.1,())))))) fun b=>
 opt.ret _ (b.1,(b.2.1,(b.2.2.1,(b.2.2.2.1,()))))) (
 opt.need _ (p.rowOk a.2.2.1 (p.nat a.2.2.2.1) [ci,ci])<|
 opt.need _ (p.cmp .geq a.2.2.2.1 (0:Int))<|
 opt.ask _ (p.cmp .eql (p.rdI a.2.2.1 (p.nat a.2.2.2.1) 0) a.1) (
 opt.need _ (p.rowOk a.2.2.1 (p.nat a.2.2.2.1) [ci,ci])<|
 opt.need _ (p.cmp .geq a.2.2.2.1 (0:Int))<|
 opt.bnd T14 _ (
 opt.run T14 (
 opt.ask _ (p.cmp .lss (p.rdI a.2.2.1 (p.nat a.2.2.2.1) 1) a.2.1) (
 opt.need _ (p.rowOk a.2.2.1 (p.nat a.2.2.2.1) [ci,ci])<|
 opt.need _ (p.cmp .geq a.2.2.2.1 (0:Int))<|
 opt.ret _ ((p.rdI a.2.2.1 (p.nat a.2.2.2.1) 0),((p.rdI a.2.2.1 (p.nat a.2.2.2.1) 1),(a.2.2.1,(a.2.2.2.1,()))))) (
 opt.ret _ (a.1,(a.2.1,(a.2.2.1,(a.2.2.2.1,()))))))) fun c=>
 opt.ret _ (c.1,(c.2.1,(c.2.2.1,(c.2.2.2.1,()))))) (
 opt.bnd T14 _ (
 opt.run T14 (
 opt.ret _ (a.1,(a.2.1,(a.2.2.1,(a.2.2.2.1,())))))) fun d=>
 opt.ret _ (d.1,(d.2.1,(d.2.2.1,(d.2.2.2.1,())))))))) fun e=>
 opt.ret _ (Sum.inl (e.1,(e.2.1,(e.2.2.1,((p.ar .add .i64 e.2.2.2.1 (1:Int)),())))))) (
 opt.ret _ (Sum.inr (a.1,(a.2.1,(a.2.2.1,()))))))
def g61 (it:It):(p:Prim)→(LD×Unit)→Option ((LD×Unit)):=
 fun p x=>
 opt.need _ (p.rowOk x.1 (p.nat (0:Int)) [ci,ci])<|
 opt.bnd T22 _ (
 it _ _ (x2s p) ((p.rdI x.1 (p.nat (0:Int)) 0),((p.rdI x.1 (p.nat (0:Int)) 1),(x.1,((1:Int),()))))) fun a=>
 opt.need _ (p.leN (p.add 0 1) (p.len [[(D.int .i64 a.1),(D.int .i64 a.2.1)]]))<|
 opt.bnd ((LD×T17)) _ (
 it _ _ (x4i it p) ([[(D.int .i64 a.1),(D.int .i64 a.2.1)]],(a.1,(a.2.1,(a.2.2.1,(0,(1,()))))))) fun b=>
 opt.need _ (p.leN (p.add b.2.1 b.2.2.1) (p.len b.1))<|
 opt.ret _ ((p.cut b.1 b.2.1 b.2.2.1),())
def G61:=g61 it0
theorem ok61:CtrOk PG v4x (G61 std):=okF (a:=an61) (l:=la61) (gC ok91 (gC ok90 (gN))) (by kernel_rfl) fun _ _=>by kernel_rfl
def v47:Ctr:=
 ⟨34,[.int .i64, .int .i64],[],[(.ret,⟨[(0, .agg [.int .i64, .int .i64])],[],1⟩)]⟩
def la34:List LA:=
 [⟨34,[false,false,true,true],0,⟨⟨[(0, .int .i64),(1, .int .i64),(4, .bptr 0 0),(5, .int .i64),(6, .int .i64)],[.box [.int .i64, .int .i64]],22⟩,[((AX.exit 0),⟨[(0, .int .i64),(1, .int .i64),(4, .bptr 0 0),(5, .int .i64)],[.box [.int .i64, .int .i64]],22⟩)]⟩⟩]
def ja34:List JA:=
 []
def v93:List CF:=
 []
def an34:Anns:=
 ⟨v93,ja34,[]⟩
def x8m (p:Prim):T27→Option ((Int×(Int×(Int×(Int×(Int×(Int×Unit))))))⊕(Int×(Int×(Int×(Int×(Int×Unit)))))):=
 fun a=>opt.run _ (
 opt.ask _ (p.cmp .neq a.2.2.2.2.2.1 (0:Int)) (
 opt.need _ (p.cmp .neq a.2.2.2.2.2.1 (0:Int))<|
 opt.ret _ (Sum.inl (a.1,(a.2.1,(a.2.2.1,(a.2.2.2.1,(a.2.2.2.2.2.1,((p.ar .rem .i64 a.2.2.2.2.1 a.2.2.2.2.2.1),())))))))) (
 opt.ret _ (Sum.inr (a.1,(a.2.1,(a.2.2.1,(a.2.2.2.1,(a.2.2.2.2.1,()))))))))
def g34 (it:It):(p:Prim)→T3→Option T4:=
 fun p x=>
 opt.bnd ((Int×(Int×(Int×(Int×(Int×Unit)))))) _ (
 it _ _ (x8m p) ((0:Int),((0:Int),(x.1,(x.2.1,(x.1,(x.2.1,()))))))) fun a=>
 opt.need _ (p.cmp .neq a.2.2.2.2.1 (0:Int))<|
 opt.need _ (p.cmp .neq a.2.2.2.2.1 (0:Int))<|
 opt.ret _ ((p.ar .quo .i64 a.2.2.1 a.2.2.2.2.1),((p.ar .quo .i64 a.2.2.2.1 a.2.2.2.2.1),()))
def G34:=g34 it0
theorem ok34:CtrOk PG v47 (G34 std):=okF (a:=an34) (l:=la34) (gN) (by kernel_rfl) fun _ _=>by kernel_rfl
def v0a:Ctr:=
 ⟨19,[.agg [.list 2, .list 1]],[],[(.ret,⟨[(0, .int .i64)],[],1⟩)]⟩
def la19:List LA:=
 [⟨19,[false,true,false,true,true],0,⟨⟨[(1, .bptr 0 0),(3, .int .i64)],[.box [.list 2, .list 1]],47⟩,[(AX.ret,⟨[(2, .int .i64)],[],47⟩),((AX.exit 0),⟨[(1, .bptr 0 0)],[.box [.list 2, .list 1]],47⟩)]⟩⟩,
 ⟨19,[false,true,false,true,true,true,true],0,⟨⟨[(1, .bptr 0 0),(4, .int .i64)],[.box [.list 2, .list 1]],47⟩,[(AX.ret,⟨[(2, .int .i64)],[],47⟩),((AX.exit 2),⟨[],[],47⟩)]⟩⟩]
def ja19:List JA:=
 [⟨19,[false,false,true],0,[(AX.normal,⟨[(1, .bptr 0 0),(14, .bool)],[.box [.list 2, .list 1]],47⟩)]⟩]
def u0c:List CF:=
 [⟨v4y,G56⟩,⟨v4z,G55⟩]
def an19:Anns:=
 ⟨u0c,ja19,[]⟩
def x8j (it:It) (p:Prim):(LD×(LD×T1))→Option ((LD×(LD×T1))⊕((Int×Unit)⊕Unit)):=
 fun a=>opt.run _ (
 opt.ask _ (p.cmp .lss a.2.2.1 (p.ofNat (p.len a.2.1))) (
 opt.need _ (p.rowOk a.2.1 (p.nat a.2.2.1) [(CK.list 2)])<|
 opt.need _ (p.cmp .geq a.2.2.1 (0:Int))<|
 opt.bnd T2 _ (g56 it p ((p.rdL a.2.1 (p.nat a.2.2.1) 0),((-1000:Int),((1000:Int),())))) fun b=>
 opt.ask _ (bif b.1 then Bool.false else Bool.true) (
 opt.ret _ (Sum.inr (Sum.inl ((3:Int),())))) (
 opt.ret _ (Sum.inl (a.1,(a.2.1,((p.ar .add .i64 a.2.2.1 (1:Int)),())))))) (
 opt.ret _ (Sum.inr (Sum.inr ()))))
def w5q (p:Prim):(LD×(LD×T1))→Option ((LD×(LD×T1))⊕((Int×Unit)⊕(LD×(LD×Unit)))):=
 fun a=>opt.run _ (
 opt.ask _ (p.cmp .lss a.2.2.1 (p.ofNat (p.len a.2.1))) (
 opt.need _ (p.rowOk a.2.1 (p.nat a.2.2.1) [(CK.list 2)])<|
 opt.need _ (p.cmp .geq a.2.2.1 (0:Int))<|
 opt.bnd T2 _ (G55 p ((p.rdL a.2.1 (p.nat a.2.2.1) 0),())) fun b=>
 opt.ask _ (bif b.1 then Bool.false else Bool.true) (
 opt.ret _ (Sum.inr (Sum.inl ((6:Int),())))) (
 opt.ret _ (Sum.inl (a.1,(a.2.1,((p.ar .add .i64 a.2.2.1 (1:Int)),())))))) (
 opt.ret _ (Sum.inr (Sum.inr (a.1,(a.2.1,()))))))
def g19 (it:It):(p:Prim)→(LD×(LD×Unit))→Option T0:=
 fun p x=>
 opt.bnd ((LD×(LD×T11))) _ (
 opt.run ((LD×(LD×T11))) (
 opt.bnd T2 _ (G55 p (x.1,())) fun a=>
 opt.ask _ (bif a.1 then Bool.false else Bool.true) (
 opt.ret _ (x.1,(x.2.1,(Bool.true,())))) (
 opt.ret _ (x.1,(x.2.1,((p.cmp .gtr (p.ofNat (p.len x.2.1)) (4:Int)),())))))) fun b=>
 opt.ask _ b.2.2.1 (
 opt.ret _ ((6:Int),())) (
 opt.alt T0 ((LD×(LD×Unit))) _ (
 it _ _ (w5q p) (b.1,(b.2.1,((0:Int),())))) (fun c=>
 opt.ret _ (c.1,())) (fun d=>
 opt.bnd ((LD×(LD×Unit))) _ (some d) fun e=>
 opt.bnd T2 _ (g56 it p (e.1,((0:Int),((1000:Int),())))) fun f=>
 opt.ask _ (bif f.1 then Bool.false else Bool.true) (
 opt.ret _ ((3:Int),())) (
 opt.alt T0 (Unit) _ (
 it _ _ (x8j it p) (e.1,(e.2.1,((0:Int),())))) (fun g=>
 opt.ret _ (g.1,())) (fun h=>
 opt.bnd (Unit) _ (some h) fun i=>
 opt.ret _ ((0:Int),())))))
def G19:=g19 it0
theorem u1s:CtrOk PG v0a (G19 std):=okF (a:=an19) (l:=la19) (gC ok56 (gC ok55 (gN))) (by kernel_rfl) fun _ _=>by kernel_rfl
def v40:Ctr:=
 ⟨43,[.list 2, .agg [.int .i64, .int .i64, .int .i64]],[],[(.ret,⟨[(0, .bool)],[],1⟩)]⟩
def la43:List LA:=
 [⟨43,[false,true,false,true,true],0,⟨⟨[(0, .list 2),(3, .bptr 0 0),(5, .int .i64),(6, .int .i64)],[.box [.int .i64, .int .i64, .int .i64]],91⟩,[(AX.ret,⟨[(4, .bool)],[],91⟩),((AX.exit 0),⟨[],[],91⟩)]⟩⟩]
def ja43:List JA:=
 [⟨43,[false,true,false,false,true,false,true,true],0,[(AX.ret,⟨[(4, .bool)],[],91⟩),(AX.normal,⟨[(0, .list 2),(3, .bptr 0 0),(5, .int .i64),(6, .int .i64)],[.box [.int .i64, .int .i64, .int .i64]],91⟩)]⟩,
 ⟨43,[false,false,true,false,true,true,false,false,true,false,false,true,false,true,true],0,[(AX.normal,⟨[(4, .bool)],[],91⟩)]⟩,
 ⟨43,[false,true,true,true,true,true,false,false,true,false,false,true,false,true,true],0,[(AX.normal,⟨[(0, .list 2),(3, .bptr 0 0),(5, .int .i64),(6, .int .i64),(90, .bool)],[.box [.int .i64, .int .i64, .int .i64]],91⟩)]⟩]
def v9x:List CF:=
 []
def an43:Anns:=
 ⟨v9x,ja43,[]⟩
def u0r (p:Prim):T47→Option ((Int×(Int×(Int×(LD×(Int×(Int×Unit))))))⊕((Bool×Unit)⊕Unit)):=
 fun a=>opt.run _ (
 opt.ask _ (p.cmp .lss a.2.2.2.2.2.1 a.2.2.2.2.1) (
 opt.alt T2 T57 _ (
 opt.run (((Bool×Unit)⊕(Int×(Int×(Int×(LD×(Int×(Int×Unit)))))))) (
 opt.need _ (p.rowOk a.2.2.2.1 (p.nat a.2.2.2.2.2.1) [ci,ci])<|
 opt.need _ (p.cmp .geq a.2.2.2.2.2.1 (0:Int))<|
 opt.need _ (p.cmp .neq a.2.2.2.2.1 (0:Int))<|
 opt.need _ (p.rowOk a.2.2.2.1 (p.nat (p.ar .rem .i64 (p.ar .add .i64 a.2.2.2.2.2.1 (1:Int)) a.2.2.2.2.1)) [ci,ci])<|
 opt.need _ (p.cmp .geq (p.ar .rem .i64 (p.ar .add .i64 a.2.2.2.2.2.1 (1:Int)) a.2.2.2.2.1) (0:Int))<|
 opt.ask _ (p.cmp .eql a.2.2.2.2.1 (1:Int)) (
 opt.bnd T2 _ (
 opt.run T2 (
 opt.ask _ (p.cmp .eql (p.ar .sub .i64 a.1 (p.ar .mul .i64 (p.rdI a.2.2.2.1 (p.nat a.2.2.2.2.2.1) 0) a.2.2.1)) (0:Int)) (
 opt.ret _ ((p.cmp .eql (p.ar .sub .i64 a.2.1 (p.ar .mul .i64 (p.rdI a.2.2.2.1 (p.nat a.2.2.2.2.2.1) 1) a.2.2.1)) (0:Int)),())) (
 opt.ret _ (Bool.false,())))) fun b=>
 opt.ret _ (Sum.inl (b.1,()))) (
 opt.ask _ (p.cmp .lss (p.ar .sub .i64 (p.ar .mul .i64 (p.ar .sub .i64 (p.rdI a.2.2.2.1 (p.nat (p.ar .rem .i64 (p.ar .add .i64 a.2.2.2.2.2.1 (1:Int)) a.2.2.2.2.1)) 0) (p.rdI a.2.2.2.1 (p.nat a.2.2.2.2.2.1) 0)) (p.ar .sub .i64 a.2.1 (p.ar .mul .i64 (p.rdI a.2.2.2.1 (p.nat a.2.2.2.2.2.1) 1) a.2.2.1))) (p.ar .mul .i64 (p.ar .sub .i64 (p.rdI a.2.2.2.1 (p.nat (p.ar .rem .i64 (p.ar .add .i64 a.2.2.2.2.2.1 (1:Int)) a.2.2.2.2.1)) 1) (p.rdI a.2.2.2.1 (p.nat a.2.2.2.2.2.1) 1)) (p.ar .sub .i64 a.1 (p.ar .mul .i64 (p.rdI a.2.2.2.1 (p.nat a.2.2.2.2.2.1) 0) a.2.2.1)))) (0:Int)) (
 opt.ret _ (Sum.inl (Bool.false,()))) (
 opt.bnd T58 _ (
 opt.run T58 (
 opt.ask _ (p.cmp .eql a.2.2.2.2.1 (2:Int)) (
 opt.ret _ (a.1,(a.2.1,(a.2.2.1,(a.2.2.2.1,(a.2.2.2.2.1,(a.2.2.2.2.2.1,((p.cmp .lss (p.ar .add .i64 (p.ar .mul .i64 (p.ar .sub .i64 (p.rdI a.2.2.2.1 (p.nat (p.ar .rem .i64 (p.ar .add .i64 a.2.2.2.2.2.1 (1:Int)) a.2.2.2.2.1)) 0) (p.rdI a.2.2.2.1 (p.nat a.2.2.2.2.2.1) 0)) (p.ar .sub .i64 a.1 (p.ar .mul .i64 (p.rdI a.2.2.2.1 (p.nat a.2.2.2.2.2.1) 0) a.2.2.1))) (p.ar .mul .i64 (p.ar .sub .i64 (p.rdI a.2.2.2.1 (p.nat (p.ar .rem .i64 (p.ar .add .i64 a.2.2.2.2.2.1 (1:Int)) a.2.2.2.2.1)) 1) (p.rdI a.2.2.2.1 (p.nat a.2.2.2.2.2.1) 1)) (p.ar .sub .i64 a.2.1 (p.ar .mul .i64 (p.rdI a.2.2.2.1 (p.nat a.2.2.2.2.2.1) 1) a.2.2.1)))) (0:Int)),())))))))) (
 opt.ret _ (a.1,(a.2.1,(a.2.2.1,(a.2.2.2.1,(a.2.2.2.2.1,(a.2.2.2.2.2.1,(Bool.false,())))))))))) fun c=>
 opt.ask _ c.2.2.2.2.2.2.1 (
 opt.ret _ (Sum.inl (Bool.false,()))) (
 opt.ret _ (Sum.inr (c.1,(c.2.1,(c.2.2.1,(c.2.2.2.1,(c.2.2.2.2.1,(c.2.2.2.2.2.1,())))))))))))) (fun d=>
 opt.ret _ (Sum.inr (Sum.inl (d.1,())))) (fun e=>
 opt.bnd T57 _ (some e) fun f=>
 opt.ret _ (Sum.inl (f.1,(f.2.1,(f.2.2.1,(f.2.2.2.1,(f.2.2.2.2.1,((p.ar .add .i64 f.2.2.2.2.2.1 (1:Int)),()))))))))) (
 opt.ret _ (Sum.inr (Sum.inr ()))))
def g43 (it:It):(p:Prim)→(LD×T7)→Option T2:=
 fun p x=>
 opt.alt T2 (Unit) _ (
 it _ _ (u0r p) (x.2.1,(x.2.2.1,(x.2.2.2.1,(x.1,((p.ofNat (p.len x.1)),((0:Int),()))))))) (fun a=>
 opt.ret _ (a.1,())) (fun b=>
 opt.bnd (Unit) _ (some b) fun c=>
 opt.ret _ (Bool.true,()))
def G43:=g43 it0
theorem ok43:CtrOk PG v40 (G43 std):=okF (a:=an43) (l:=la43) (gN) (by kernel_rfl) fun _ _=>by kernel_rfl
def w96:Ctr:=
 ⟨49,[.agg [.list 2, .list 1]],[],[(.ret,⟨[(0, .list 2)],[],1⟩)]⟩
def la49:List LA:=
 [⟨49,[false,true,false,true,true],0,⟨⟨[(1, .bptr 0 0),(3, .list 2),(4, .int .i64)],[.box [.list 2, .list 1]],27⟩,[((AX.exit 0),⟨[(3, .list 2)],[],27⟩)]⟩⟩,
 ⟨45,[false,true,false,true,true],2,⟨⟨[(1, .bptr 2 0),(3, .list 2),(4, .int .i64)],[.box [.list 2, .list 1], .row [(CK.list 2)], .box [.list 2, .full 1 1]],51⟩,[((AX.exit 0),⟨[(3, .list 2)],[.box [.list 2, .list 1], .row [(CK.list 2)]],51⟩)]⟩⟩,
 ⟨45,[false,true,false,true,false,false,true,false,false,true,false,true,true],2,⟨⟨[(1, .bptr 2 0),(3, .list 2),(4, .int .i64),(5, .vec 3 2),(6, .int .i64)],[.box [.list 2, .list 1], .row [(CK.list 2)], .box [.list 2, .full 1 1], .row [ci,ci]],51⟩,[((AX.exit 2),⟨[(1, .bptr 2 0),(4, .int .i64),(5, .vec 3 2)],[.box [.list 2, .list 1], .row [(CK.list 2)], .box [.list 2, .full 1 1], .row [ci,ci]],51⟩)]⟩⟩,
 ⟨45,[false,true,false,false,true,false,false,true,false,true,false,false,true,false,false,true,false,true,true],2,⟨⟨[(1, .bptr 2 0),(3, .list 2),(4, .int .i64),(5, .vec 3 2),(6, .int .i64),(7, .int .i64)],[.box [.list 2, .list 1], .row [(CK.list 2)], .box [.list 2, .full 1 1], .row [ci,ci]],51⟩,[((AX.exit 4),⟨[(1, .bptr 2 0),(3, .list 2),(4, .int .i64),(5, .vec 3 2),(6, .int .i64)],[.box [.list 2, .list 1], .row [(CK.list 2)], .box [.list 2, .full 1 1], .row [ci,ci]],51⟩)]⟩⟩]
def ja49:List JA:=
 []
def v9v:List CF:=
 [⟨v4x,G61⟩]
def an49:Anns:=
 ⟨v9v,ja49,[]⟩
def w2c (p:Prim):(LD×(LD×(LD×(LD×(LD×(LD×T7))))))→Option ((LD×(LD×(LD×(LD×(LD×(LD×T7))))))⊕(LD×(LD×(LD×(LD×(LD×(LD×T3))))))):=
 fun a=>opt.run _ (
 opt.need _ (bif (p.cmp .geq a.2.2.2.2.2.2.1 (0:Int)) then (p.cmp .lss a.2.2.2.2.2.2.1 (p.ofNat (p.len a.1))) else Bool.false)<|
 opt.need _ (p.rowOk a.1 (p.add 0 (p.nat a.2.2.2.2.2.2.1)) [(CK.list 2)])<|
 opt.ask _ (p.cmp .lss a.2.2.2.2.2.2.2.2.1 (p.ofNat (p.len (p.rdL a.1 (p.add 0 (p.nat a.2.2.2.2.2.2.1)) 0)))) (
 opt.need _ (p.rowOk a.2.2.2.2.2.1 (p.nat a.2.2.2.2.2.2.2.1) [ci,ci])<|
 opt.need _ (p.cmp .geq a.2.2.2.2.2.2.2.1 (0:Int))<|
 opt.need _ (bif (p.cmp .geq a.2.2.2.2.2.2.1 (0:Int)) then (p.cmp .lss a.2.2.2.2.2.2.1 (p.ofNat (p.len a.1))) else Bool.false)<|
 opt.need _ (p.rowOk a.1 (p.add 0 (p.nat a.2.2.2.2.2.2.1)) [(CK.list 2)])<|
 opt.need _ (p.rowOk (p.rdL a.1 (p.add 0 (p.nat a.2.2.2.2.2.2.1)) 0) (p.nat a.2.2.2.2.2.2.2.2.1) [ci,ci])<|
 opt.need _ (p.cmp .geq a.2.2.2.2.2.2.2.2.1 (0:Int))<|
 opt.need _ (p.and (p.leN (p.add 0 1) (p.len [[(D.int .i64 (p.ar .add .i64 (p.rdI a.2.2.2.2.2.1 (p.nat a.2.2.2.2.2.2.2.1) 0) (p.rdI (p.rdL a.1 (p.add 0 (p.nat a.2.2.2.2.2.2.1)) 0) (p.nat a.2.2.2.2.2.2.2.2.1) 0))),(D.int .i64 (p.ar .add .i64 (p.rdI a.2.2.2.2.2.1 (p.nat a.2.2.2.2.2.2.2.1) 1) (p.rdI (p.rdL a.1 (p.add 0 (p.nat a.2.2.2.2.2.2.1)) 0) (p.nat a.2.2.2.2.2.2.2.2.1) 1)))]])) (p.and (p.leN (p.add 0 (p.len a.2.1)) (p.len a.2.1)) (p.and (p.leN 1 1) (p.leN (p.add (p.len a.2.1) 1) 1000000))))<|
 opt.need _ (p.eqN 0 0)<|
 opt.need _ (p.eqN (p.len a.1) (p.len a.1))<|
 opt.need _ (p.eqN (p.len a.1) (p.len a.1))<|
 opt.need _ (p.eqN 0 0)<|
 opt.need _ (p.eqN (p.add (p.len a.2.1) 1) (p.len (p.app (p.cut a.2.1 0 (p.len a.2.1)) (p.cut [[(D.int .i64 (p.ar .add .i64 (p.rdI a.2.2.2.2.2.1 (p.nat a.2.2.2.2.2.2.2.1) 0) (p.rdI (p.rdL a.1 (p.add 0 (p.nat a.2.2.2.2.2.2.1)) 0) (p.nat a.2.2.2.2.2.2.2.2.1) 0))),(D.int .i64 (p.ar .add .i64 (p.rdI a.2.2.2.2.2.1 (p.nat a.2.2.2.2.2.2.2.1) 1) (p.rdI (p.rdL a.1 (p.add 0 (p.nat a.2.2.2.2.2.2.1)) 0) (p.nat a.2.2.2.2.2.2.2.2.1) 1)))]] 0 1))))<|
 opt.ret _ (Sum.inl (a.1,((p.app (p.cut a.2.1 0 (p.len a.2.1)) (p.cut [[(D.int .i64 (p.ar .add .i64 (p.rdI a.2.2.2.2.2.1 (p.nat a.2.2.2.2.2.2.2.1) 0) (p.rdI (p.rdL a.1 (p.add 0 (p.nat a.2.2.2.2.2.2.1)) 0) (p.nat a.2.2.2.2.2.2.2.2.1) 0))),(D.int .i64 (p.ar .add .i64 (p.rdI a.2.2.2.2.2.1 (p.nat a.2.2.2.2.2.2.2.1) 1) (p.rdI (p.rdL a.1 (p.add 0 (p.nat a.2.2.2.2.2.2.1)) 0) (p.nat a.2.2.2.2.2.2.2.2.1) 1)))]] 0 1)),(a.2.2.1,(a.2.2.2.1,(a.2.2.2.2.1,(a.2.2.2.2.2.1,(a.2.2.2.2.2.2.1,(a.2.2.2.2.2.2.2.1,((p.ar .add .i64 a.2.2.2.2.2.2.2.2.1 (1:Int)),()))))))))))) (
 opt.need _ (p.eqN 0 0)<|
 opt.need _ (p.eqN (p.len a.1) (p.len a.1))<|
 opt.need _ (p.eqN (p.len a.1) (p.len a.1))<|
 opt.need _ (p.eqN 0 0)<|
 opt.need _ (p.eqN (p.len a.2.1) (p.len a.2.1))<|
 opt.ret _ (Sum.inr (a.1,(a.2.1,(a.2.2.1,(a.2.2.2.1,(a.2.2.2.2.1,(a.2.2.2.2.2.1,(a.2.2.2.2.2.2.1,(a.2.2.2.2.2.2.2.1,())))))))))))
def x4j (it:It) (p:Prim):(LD×(LD×(LD×(LD×(LD×(LD×T3))))))→Option ((LD×(LD×(LD×(LD×(LD×(LD×T3))))))⊕(LD×(LD×(LD×(LD×(LD×T1)))))):=
 fun a=>opt.run _ (
 opt.ask _ (p.cmp .lss a.2.2.2.2.2.2.2.1 (p.ofNat (p.len a.2.2.2.2.2.1))) (
 opt.need _ (p.eqN 0 0)<|
 opt.need _ (p.eqN (p.len a.1) (p.len a.1))<|
 opt.need _ (p.eqN (p.len a.1) (p.len a.1))<|
 opt.need _ (p.eqN 0 0)<|
 opt.need _ (p.eqN (p.len a.2.1) (p.len a.2.1))<|
 opt.bnd ((LD×(LD×(LD×(LD×(LD×(LD×T3))))))) _ (
 it _ _ (w2c p) (a.1,(a.2.1,(a.2.2.1,(a.2.2.2.1,(a.2.2.2.2.1,(a.2.2.2.2.2.1,(a.2.2.2.2.2.2.1,(a.2.2.2.2.2.2.2.1,((0:Int),())))))))))) fun b=>
 opt.need _ (p.eqN 0 0)<|
 opt.need _ (p.eqN (p.len b.1) (p.len b.1))<|
 opt.need _ (p.eqN (p.len b.1) (p.len b.1))<|
 opt.need _ (p.eqN 0 0)<|
 opt.need _ (p.eqN (p.len b.2.1) (p.len b.2.1))<|
 opt.ret _ (Sum.inl (b.1,(b.2.1,(b.2.2.1,(b.2.2.2.1,(b.2.2.2.2.1,(b.2.2.2.2.2.1,(b.2.2.2.2.2.2.1,((p.ar .add .i64 b.2.2.2.2.2.2.2.1 (1:Int)),())))))))))) (
 opt.need _ (p.eqN 0 0)<|
 opt.need _ (p.eqN (p.len a.1) (p.len a.1))<|
 opt.need _ (p.eqN (p.len a.1) (p.len a.1))<|
 opt.need _ (p.eqN 0 0)<|
 opt.need _ (p.eqN (p.len a.2.1) (p.len a.2.1))<|
 opt.ret _ (Sum.inr (a.1,(a.2.1,(a.2.2.1,(a.2.2.2.1,(a.2.2.2.2.1,(a.2.2.2.2.2.2.1,())))))))))
def x2m (it:It) (p:Prim):(LD×(LD×(LD×(LD×(LD×T1)))))→Option ((LD×(LD×(LD×(LD×(LD×T1)))))⊕(LD×(LD×(LD×(LD×Unit))))):=
 fun a=>opt.run _ (
 opt.ask _ (p.cmp .lss a.2.2.2.2.2.1 (p.ofNat (p.len a.1))) (
 opt.need _ (p.eqN 0 0)<|
 opt.need _ (p.eqN (p.len a.1) (p.len a.1))<|
 opt.need _ (p.eqN (p.len a.1) (p.len a.1))<|
 opt.bnd ((LD×(LD×(LD×(LD×(LD×T1)))))) _ (
 it _ _ (x4j it p) (a.1,([],(a.2.1,(a.2.2.1,(a.2.2.2.1,(a.2.2.2.2.1,(a.2.2.2.2.2.1,((0:Int),()))))))))) fun b=>
 opt.need _ (p.eqN 0 0)<|
 opt.need _ (p.eqN (p.len b.1) (p.len b.1))<|
 opt.need _ (p.eqN (p.len b.1) (p.len b.1))<|
 opt.need _ (p.leN (p.add 0 (p.len b.2.1)) (p.len b.2.1))<|
 opt.ret _ (Sum.inl (b.1,(b.2.2.1,(b.2.2.2.1,(b.2.2.2.2.1,((p.cut b.2.1 0 (p.len b.2.1)),((p.ar .add .i64 b.2.2.2.2.2.1 (1:Int)),())))))))) (
 opt.ret _ (Sum.inr (a.1,(a.2.1,(a.2.2.1,(a.2.2.2.2.1,())))))))
def x8i (it:It) (p:Prim):(LD×(LD×(LD×T1)))→Option ((LD×(LD×(LD×T1)))⊕(LD×Unit)):=
 fun a=>opt.run _ (
 opt.ask _ (p.cmp .lss a.2.2.2.1 (p.ofNat (p.len a.2.1))) (
 opt.need _ (p.rowOk a.2.1 (p.nat a.2.2.2.1) [(CK.list 2)])<|
 opt.need _ (p.cmp .geq a.2.2.2.1 (0:Int))<|
 opt.bnd ((LD×Unit)) _ (g61 it p ((p.rdL a.2.1 (p.nat a.2.2.2.1) 0),())) fun b=>
 opt.need _ (p.eqN 0 0)<|
 opt.need _ (p.eqN 1 (p.len [[(D.list Bool.false 2 b.1)]]))<|
 opt.need _ (p.eqN 1 (p.len [[(D.list Bool.false 2 b.1)]]))<|
 opt.bnd ((LD×(LD×(LD×(LD×Unit))))) _ (
 it _ _ (x2m it p) ([[(D.list Bool.false 2 b.1)]],(a.1,(a.2.1,(a.2.2.1,(a.2.2.1,((0:Int),()))))))) fun c=>
 opt.bnd ((LD×Unit)) _ (g61 it p (c.2.2.2.1,())) fun d=>
 opt.ret _ (Sum.inl (c.2.1,(c.2.2.1,(d.1,((p.ar .add .i64 a.2.2.2.1 (1:Int)),())))))) (
 opt.ret _ (Sum.inr (a.2.2.1,()))))
def g49 (it:It):(p:Prim)→(LD×(LD×Unit))→Option ((LD×Unit)):=
 fun p x=>
 opt.bnd ((LD×Unit)) _ (g61 it p (x.1,())) fun a=>
 opt.bnd ((LD×Unit)) _ (
 it _ _ (x8i it p) (x.1,(x.2.1,(a.1,((0:Int),()))))) fun b=>
 opt.ret _ (b.1,())
def G49:=g49 it0
theorem u1o:CtrOk PG w96 (G49 std):=okF (a:=an49) (l:=la49) (gC ok61 (gN)) (by kernel_rfl) fun _ _=>by kernel_rfl
def w91:Ctr:=
 ⟨72,[.agg [.list 2, .list 1], .agg [.list 2, .list 1]],[],[(.ret,⟨[(0, .int .i64)],[],1⟩)]⟩
def la72:List LA:=
 []
def ja72:List JA:=
 []
def v9g:List CF:=
 [⟨v0a,G19⟩]
def an72:Anns:=
 ⟨v9g,ja72,[]⟩
def g72 (it:It):(p:Prim)→(LD×(LD×(LD×(LD×Unit))))→Option T0:=
 fun p x=>
 opt.bnd T0 _ (g19 it p (x.1,(x.2.1,()))) fun a=>
 opt.ask _ (p.cmp .neq a.1 (0:Int)) (
 opt.bnd T0 _ (g19 it p (x.1,(x.2.1,()))) fun b=>
 opt.ret _ (b.1,())) (
 opt.bnd T0 _ (g19 it p (x.2.2.1,(x.2.2.2.1,()))) fun c=>
 opt.ret _ (c.1,()))
def G72:=g72 it0
theorem u1j:CtrOk PG w91 (G72 std):=okF (a:=an72) (l:=la72) (gC u1s (gN)) (by kernel_rfl) fun _ _=>by kernel_rfl
def w97:Ctr:=
 ⟨36,[.agg [.list 2, .list 1], .agg [.list 2, .list 1], .agg [.int .i64, .int .i64, .int .i64]],[],[(.ret,⟨[(0, .int .i64)],[],1⟩)]⟩
def la36:List LA:=
 [⟨36,[false,true,false,true,true,true,true],0,⟨⟨[(5, .bptr 0 0),(7, .list 2),(8, .list 2),(9, .int .i64)],[.box [.int .i64, .int .i64, .int .i64]],112⟩,[(AX.ret,⟨[(6, .int .i64)],[],112⟩),((AX.exit 0),⟨[(5, .bptr 0 0),(8, .list 2)],[.box [.int .i64, .int .i64, .int .i64]],112⟩)]⟩⟩,
 ⟨36,[false,true,false,true,true,true,true,true],0,⟨⟨[(5, .bptr 0 0),(8, .list 2),(10, .int .i64)],[.box [.int .i64, .int .i64, .int .i64]],112⟩,[(AX.ret,⟨[(6, .int .i64)],[],112⟩),((AX.exit 2),⟨[],[],112⟩)]⟩⟩]
def ja36:List JA:=
 [⟨36,[false,false,true,true],0,[(AX.normal,⟨[(3, .bptr 0 0),(4, .bptr 1 0),(5, .bptr 2 0),(55, .bool)],[.box [.list 2, .list 1], .box [.list 2, .list 1], .box [.int .i64, .int .i64, .int .i64]],112⟩)]⟩]
def v91:List CF:=
 [⟨w96,G49⟩,⟨w91,G72⟩]
def an36:Anns:=
 ⟨v91,ja36,[]⟩
def w2d (p:Prim):(Int×(Int×(Int×(LD×(Int×Unit)))))→Option ((Int×(Int×(Int×(LD×(Int×Unit)))))⊕((Int×Unit)⊕Unit)):=
 fun a=>opt.run _ (
 opt.ask _ (p.cmp .lss a.2.2.2.2.1 (p.ofNat (p.len a.2.2.2.1))) (
 opt.need _ (p.rowOk a.2.2.2.1 (p.nat a.2.2.2.2.1) [ci,ci])<|
 opt.need _ (p.cmp .geq a.2.2.2.2.1 (0:Int))<|
 opt.need _ (p.rowOk a.2.2.2.1 (p.nat a.2.2.2.2.1) [ci,ci])<|
 opt.need _ (p.cmp .geq a.2.2.2.2.1 (0:Int))<|
 opt.ask _ (p.cmp .leq (p.ar .add .i64 (p.ar .mul .i64 a.1 (p.rdI a.2.2.2.1 (p.nat a.2.2.2.2.1) 0)) (p.ar .mul .i64 a.2.1 (p.rdI a.2.2.2.1 (p.nat a.2.2.2.2.1) 1))) a.2.2.1) (
 opt.ret _ (Sum.inr (Sum.inl ((14:Int),())))) (
 opt.ret _ (Sum.inl (a.1,(a.2.1,(a.2.2.1,(a.2.2.2.1,((p.ar .add .i64 a.2.2.2.2.1 (1:Int)),())))))))) (
 opt.ret _ (Sum.inr (Sum.inr ()))))
def w2e (p:Prim):(Int×(Int×(Int×(LD×(LD×(Int×Unit))))))→Option ((Int×(Int×(Int×(LD×(LD×(Int×Unit))))))⊕((Int×Unit)⊕(Int×(Int×(Int×(LD×Unit)))))):=
 fun a=>opt.run _ (
 opt.ask _ (p.cmp .lss a.2.2.2.2.2.1 (p.ofNat (p.len a.2.2.2.1))) (
 opt.need _ (p.rowOk a.2.2.2.1 (p.nat a.2.2.2.2.2.1) [ci,ci])<|
 opt.need _ (p.cmp .geq a.2.2.2.2.2.1 (0:Int))<|
 opt.need _ (p.rowOk a.2.2.2.1 (p.nat a.2.2.2.2.2.1) [ci,ci])<|
 opt.need _ (p.cmp .geq a.2.2.2.2.2.1 (0:Int))<|
 opt.ask _ (p.cmp .gtr (p.ar .add .i64 (p.ar .mul .i64 a.1 (p.rdI a.2.2.2.1 (p.nat a.2.2.2.2.2.1) 0)) (p.ar .mul .i64 a.2.1 (p.rdI a.2.2.2.1 (p.nat a.2.2.2.2.2.1) 1))) a.2.2.1) (
 opt.ret _ (Sum.inr (Sum.inl ((14:Int),())))) (
 opt.ret _ (Sum.inl (a.1,(a.2.1,(a.2.2.1,(a.2.2.2.1,(a.2.2.2.2.1,((p.ar .add .i64 a.2.2.2.2.2.1 (1:Int)),()))))))))) (
 opt.ret _ (Sum.inr (Sum.inr (a.1,(a.2.1,(a.2.2.1,(a.2.2.2.2.1,()))))))))
def g36 (it:It):(p:Prim)→(LD×(LD×(LD×(LD×T7))))→Option T0:=
 fun p x=>
 opt.bnd T0 _ (g72 it p (x.1,(x.2.1,(x.2.2.1,(x.2.2.2.1,()))))) fun a=>
 opt.ask _ (p.cmp .neq a.1 (0:Int)) (
 opt.bnd T0 _ (g72 it p (x.1,(x.2.1,(x.2.2.1,(x.2.2.2.1,()))))) fun b=>
 opt.ret _ (b.1,())) (
 opt.bnd ((LD×(LD×(LD×(LD×T20))))) _ (
 opt.run ((LD×(LD×(LD×(LD×T20))))) (
 opt.ask _ (p.cmp .eql x.2.2.2.2.1 (0:Int)) (
 opt.ask _ (p.cmp .eql x.2.2.2.2.2.1 (0:Int)) (
 opt.ret _ (x.1,(x.2.1,(x.2.2.1,(x.2.2.2.1,(x.2.2.2.2.1,(x.2.2.2.2.2.1,(x.2.2.2.2.2.2.1,(Bool.true,()))))))))) (
 opt.ask _ (p.cmp .lss x.2.2.2.2.1 (-1048576:Int)) (
 opt.ret _ (x.1,(x.2.1,(x.2.2.1,(x.2.2.2.1,(x.2.2.2.2.1,(x.2.2.2.2.2.1,(x.2.2.2.2.2.2.1,(Bool.true,()))))))))) (
 opt.ask _ (p.cmp .gtr x.2.2.2.2.1 (1048576:Int)) (
 opt.ret _ (x.1,(x.2.1,(x.2.2.1,(x.2.2.2.1,(x.2.2.2.2.1,(x.2.2.2.2.2.1,(x.2.2.2.2.2.2.1,(Bool.true,()))))))))) (
 opt.ask _ (p.cmp .lss x.2.2.2.2.2.1 (-1048576:Int)) (
 opt.ret _ (x.1,(x.2.1,(x.2.2.1,(x.2.2.2.1,(x.2.2.2.2.1,(x.2.2.2.2.2.1,(x.2.2.2.2.2.2.1,(Bool.true,()))))))))) (
 opt.ask _ (p.cmp .gtr x.2.2.2.2.2.1 (1048576:Int)) (
 opt.ret _ (x.1,(x.2.1,(x.2.2.1,(x.2.2.2.1,(x.2.2.2.2.1,(x.2.2.2.2.2.1,(x.2.2.2.2.2.2.1,(Bool.true,()))))))))) (
 opt.ask _ (p.cmp .lss x.2.2.2.2.2.2.1 (-1099511627776:Int)) (
 opt.ret _ (x.1,(x.2.1,(x.2.2.1,(x.2.2.2.1,(x.2.2.2.2.1,(x.2.2.2.2.2.1,(x.2.2.2.2.2.2.1,(Bool.true,()))))))))) (
 opt.ret _ (x.1,(x.2.1,(x.2.2.1,(x.2.2.2.1,(x.2.2.2.2.1,(x.2.2.2.2.2.1,(x.2.2.2.2.2.2.1,((p.cmp .gtr x.2.2.2.2.2.2.1 (1099511627776:Int)),()))))))))))))))) (
 opt.ask _ (p.cmp .lss x.2.2.2.2.1 (-1048576:Int)) (
 opt.ret _ (x.1,(x.2.1,(x.2.2.1,(x.2.2.2.1,(x.2.2.2.2.1,(x.2.2.2.2.2.1,(x.2.2.2.2.2.2.1,(Bool.true,()))))))))) (
 opt.ask _ (p.cmp .gtr x.2.2.2.2.1 (1048576:Int)) (
 opt.ret _ (x.1,(x.2.1,(x.2.2.1,(x.2.2.2.1,(x.2.2.2.2.1,(x.2.2.2.2.2.1,(x.2.2.2.2.2.2.1,(Bool.true,()))))))))) (
 opt.ask _ (p.cmp .lss x.2.2.2.2.2.1 (-1048576:Int)) (
 opt.ret _ (x.1,(x.2.1,(x.2.2.1,(x.2.2.2.1,(x.2.2.2.2.1,(x.2.2.2.2.2.1,(x.2.2.2.2.2.2.1,(Bool.true,()))))))))) (
 opt.ask _ (p.cmp .gtr x.2.2.2.2.2.1 (1048576:Int)) (
 opt.ret _ (x.1,(x.2.1,(x.2.2.1,(x.2.2.2.1,(x.2.2.2.2.1,(x.2.2.2.2.2.1,(x.2.2.2.2.2.2.1,(Bool.true,()))))))))) (
 opt.ask _ (p.cmp .lss x.2.2.2.2.2.2.1 (-1099511627776:Int)) (
 opt.ret _ (x.1,(x.2.1,(x.2.2.1,(x.2.2.2.1,(x.2.2.2.2.1,(x.2.2.2.2.2.1,(x.2.2.2.2.2.2.1,(Bool.true,()))))))))) (
 opt.ret _ (x.1,(x.2.1,(x.2.2.1,(x.2.2.2.1,(x.2.2.2.2.1,(x.2.2.2.2.2.1,(x.2.2.2.2.2.2.1,((p.cmp .gtr x.2.2.2.2.2.2.1 (1099511627776:Int)),())))))))))))))))) fun c=>
 opt.ask _ c.2.2.2.2.2.2.2.1 (
 opt.ret _ ((2:Int),())) (
 opt.bnd ((LD×Unit)) _ (g49 it p (c.1,(c.2.1,()))) fun d=>
 opt.bnd ((LD×Unit)) _ (g49 it p (c.2.2.1,(c.2.2.2.1,()))) fun e=>
 opt.alt T0 T59 _ (
 it _ _ (w2e p) (c.2.2.2.2.1,(c.2.2.2.2.2.1,(c.2.2.2.2.2.2.1,(d.1,(e.1,((0:Int),()))))))) (fun f=>
 opt.ret _ (f.1,())) (fun g=>
 opt.bnd T59 _ (some g) fun h=>
 opt.alt T0 (Unit) _ (
 it _ _ (w2d p) (h.1,(h.2.1,(h.2.2.1,(h.2.2.2.1,((0:Int),())))))) (fun i=>
 opt.ret _ (i.1,())) (fun j=>
 opt.bnd (Unit) _ (some j) fun k=>
 opt.ret _ ((0:Int),())))))
def G36:=g36 it0
theorem u1p:CtrOk PG w97 (G36 std):=okF (a:=an36) (l:=la36) (gC u1o (gC u1j (gN))) (by kernel_rfl) fun _ _=>by kernel_rfl
def v42:Ctr:=
 ⟨38,[.agg [.list 2, .list 1], .agg [.list 2, .list 1], .agg [.int .i64, .int .i64, .int .i64]],[],[(.ret,⟨[(0, .int .i64)],[],1⟩)]⟩
def la38:List LA:=
 []
def ja38:List JA:=
 [⟨38,[false,false,true,true],0,[(AX.normal,⟨[(3, .bptr 0 0),(4, .bptr 1 0),(5, .bptr 2 0),(41, .bool)],[.box [.list 2, .list 1], .box [.list 2, .list 1], .box [.int .i64, .int .i64, .int .i64]],54⟩)]⟩]
def v9z:List CF:=
 [⟨v40,G43⟩,⟨w96,G49⟩,⟨w91,G72⟩]
def an38:Anns:=
 ⟨v9z,ja38,[]⟩
def g38 (it:It):(p:Prim)→(LD×(LD×(LD×(LD×T7))))→Option T0:=
 fun p x=>
 opt.bnd T0 _ (g72 it p (x.1,(x.2.1,(x.2.2.1,(x.2.2.2.1,()))))) fun a=>
 opt.ask _ (p.cmp .neq a.1 (0:Int)) (
 opt.bnd T0 _ (g72 it p (x.1,(x.2.1,(x.2.2.1,(x.2.2.2.1,()))))) fun b=>
 opt.ret _ (b.1,())) (
 opt.bnd ((LD×(LD×(LD×(LD×T20))))) _ (
 opt.run ((LD×(LD×(LD×(LD×T20))))) (
 opt.ask _ (p.cmp .lss x.2.2.2.2.2.2.1 (1:Int)) (
 opt.ret _ (x.1,(x.2.1,(x.2.2.1,(x.2.2.2.1,(x.2.2.2.2.1,(x.2.2.2.2.2.1,(x.2.2.2.2.2.2.1,(Bool.true,()))))))))) (
 opt.ask _ (p.cmp .gtr x.2.2.2.2.2.2.1 (268435456:Int)) (
 opt.ret _ (x.1,(x.2.1,(x.2.2.1,(x.2.2.2.1,(x.2.2.2.2.1,(x.2.2.2.2.2.1,(x.2.2.2.2.2.2.1,(Bool.true,()))))))))) (
 opt.ask _ (p.cmp .lss x.2.2.2.2.1 (-1099511627776:Int)) (
 opt.ret _ (x.1,(x.2.1,(x.2.2.1,(x.2.2.2.1,(x.2.2.2.2.1,(x.2.2.2.2.2.1,(x.2.2.2.2.2.2.1,(Bool.true,()))))))))) (
 opt.ask _ (p.cmp .gtr x.2.2.2.2.1 (1099511627776:Int)) (
 opt.ret _ (x.1,(x.2.1,(x.2.2.1,(x.2.2.2.1,(x.2.2.2.2.1,(x.2.2.2.2.2.1,(x.2.2.2.2.2.2.1,(Bool.true,()))))))))) (
 opt.ask _ (p.cmp .lss x.2.2.2.2.2.1 (-1099511627776:Int)) (
 opt.ret _ (x.1,(x.2.1,(x.2.2.1,(x.2.2.2.1,(x.2.2.2.2.1,(x.2.2.2.2.2.1,(x.2.2.2.2.2.2.1,(Bool.true,()))))))))) (
 opt.ret _ (x.1,(x.2.1,(x.2.2.1,(x.2.2.2.1,(x.2.2.2.2.1,(x.2.2.2.2.2.1,(x.2.2.2.2.2.2.1,((p.cmp .gtr x.2.2.2.2.2.1 (1099511627776:Int)),()))))))))))))))) fun c=>
 opt.ask _ c.2.2.2.2.2.2.2.1 (
 opt.ret _ ((2:Int),())) (
 opt.bnd ((LD×Unit)) _ (g49 it p (c.1,(c.2.1,()))) fun d=>
 opt.bnd T2 _ (g43 it p (d.1,(c.2.2.2.2.1,(c.2.2.2.2.2.1,(c.2.2.2.2.2.2.1,()))))) fun e=>
 opt.ask _ (bif e.1 then Bool.false else Bool.true) (
 opt.ret _ ((14:Int),())) (
 opt.bnd ((LD×Unit)) _ (g49 it p (c.2.2.1,(c.2.2.2.1,()))) fun f=>
 opt.bnd T2 _ (g43 it p (f.1,(c.2.2.2.2.1,(c.2.2.2.2.2.1,(c.2.2.2.2.2.2.1,()))))) fun g=>
 opt.ask _ (bif g.1 then Bool.false else Bool.true) (
 opt.ret _ ((14:Int),())) (
 opt.ret _ ((0:Int),())))))
def G38:=g38 it0
theorem ok38:CtrOk PG v42 (G38 std):=okF (a:=an38) (l:=la38) (gC ok43 (gC u1o (gC u1j (gN)))) (by kernel_rfl) fun _ _=>by kernel_rfl
end Go.Am
end
section
namespace M06
theorem sqn (a:Int):0≤a*a:=by
 rcases Int.le_total 0 a with h|h
 ·exact Int.mul_nonneg h h
 ·exact Int.mul_nonneg_of_nonpos_of_nonpos h h
abbrev Pt:=Int×Int
def sb (a b:Pt):Pt:=(a.1 - b.1,a.2 - b.2)
def ad (a b:Pt):Pt:=(a.1+b.1,a.2+b.2)
def crs (u v:Pt):Int:=u.1*v.2 - u.2*v.1
def dt (u v:Pt):Int:=u.1*v.1+u.2*v.2
def cr (a b c:Pt):Int:=crs (sb b a) (sb c a)
def Pos (u:Pt):Prop:=0<u.1∨(u.1=0∧0<u.2)
theorem w1x (u v w:Pt):v.1*crs u w=w.1*crs u v+u.1*crs v w:=by
 simp only [crs]; grind
theorem w1w (u v w:Pt):v.2*crs u w=w.2*crs u v+u.2*crs v w:=by
 simp only [crs]; grind
theorem z9g {u v w:Pt} (hu:Pos u) (hv:Pos v) (hw:Pos w) (h1:0≤crs u v) (h2:0≤crs v w):0≤crs u w:=by
 have i1:=w1x u v w
 have i2:=w1w u v w
 have u0:0≤u.1:=by rcases hu with h|h<;>omega
 have w0:0≤w.1:=by rcases hw with h|h<;>omega
 rcases hv with hv|⟨hv,hv2⟩
 ·have a:=Int.mul_nonneg w0 h1
  have b:=Int.mul_nonneg u0 h2
  refine Classical.byContradiction fun hc=>?_
  have:=Int.mul_neg_of_pos_of_neg hv (Int.not_le.1 hc)
  omega
 ·have e:crs v w= - (v.2*w.1):=by simp only [crs,hv]; grind
  have w1:w.1=0:=by
   refine Classical.byContradiction fun hc=>?_
   have:=Int.mul_pos hv2 (show 0<w.1 by omega)
   omega
  have hw2:0<w.2:=by rcases hw with h|h<;>omega
  have:crs u w=u.1*w.2:=by simp only [crs,w1]; grind
  rw [this]
  exact Int.mul_nonneg u0 (by omega)
theorem z23 {u v w:Pt} (hu:Pos u) (hv:Pos v) (hw:Pos w) (h1:0≤crs u v) (h2:0≤crs v w) (h3:0<crs u v∨0<crs v w):0<crs u w:=by
 refine Classical.byContradiction fun hc=>?_
 have h0:=z9g hu hv hw h1 h2
 have hz:crs u w=0:=by omega
 have i1:=w1x u v w
 have i2:=w1w u v w
 rw [hz] at i1 i2
 have u0:0≤u.1:=by rcases hu with h|h<;>omega
 have w0:0≤w.1:=by rcases hw with h|h<;>omega
 have a:=Int.mul_nonneg w0 h1
 have b:=Int.mul_nonneg u0 h2
 have a0:w.1*crs u v=0:=by omega
 have b0:u.1*crs v w=0:=by omega
 rcases h3 with h3|h3
 ·have w1:w.1=0:=by
   rcases Int.mul_eq_zero.1 a0 with h|h
   ·exact h
   ·omega
  have hw2:0<w.2:=by rcases hw with h|h<;>omega
  have u1:u.1=0:=by
   have:u.1*w.2=0:=by simp only [crs,w1] at hz; grind
   rcases Int.mul_eq_zero.1 this with h|h
   ·exact h
   ·omega
  have hu2:0<u.2:=by rcases hu with h|h<;>omega
  have v0:0≤v.1:=by rcases hv with h|h<;>omega
  have e:crs u v= - (u.2*v.1):=by simp only [crs,u1]; grind
  have:=Int.mul_nonneg (show 0≤u.2 by omega) v0
  omega
 ·have u1:u.1=0:=by
   rcases Int.mul_eq_zero.1 b0 with h|h
   ·exact h
   ·omega
  have hu2:0<u.2:=by rcases hu with h|h<;>omega
  have v0:0≤v.1:=by rcases hv with h|h<;>omega
  have e:crs u v= - (u.2*v.1):=by simp only [crs,u1]; grind
  have v1:v.1=0:=by
   refine Classical.byContradiction fun hc=>?_
   have:=Int.mul_pos hu2 (show 0<v.1 by omega)
   omega
  have hv2:0<v.2:=by rcases hv with h|h<;>omega
  have e2:crs v w= - (v.2*w.1):=by simp only [crs,v1]; grind
  have:=Int.mul_nonneg (show 0≤v.2 by omega) w0
  omega
end M06
end
section
namespace Go.Am
open M06
theorem z3v {S R:Type} {b:S→Option (S⊕R)} (n:Nat) (e:Nat→S) (P:Nat→Bool) (r:Nat→R) (rend:R)
  (step:∀ i,i<n→b (e i)=if P i=true then some (.inr (r i)) else some (.inl (e (i+1)))) (stop:b (e n)=some (.inr rend)):
  (∃ i,i<n∧P i=true∧(∀ j,j<i→P j=false)∧z4n b (e 0)=some (r i))∨((∀ i,i<n→P i=false)∧z4n b (e 0)=some rend):=by
 have key:∀ k m,n - m=k→m≤n→(∃ i,m≤i∧i<n∧P i=true∧(∀ j,m≤j→j<i→P j=false)∧z4n b (e m)=some (r i))∨((∀ i,m≤i→i<n→P i=false)∧z4n b (e m)=some rend):=by
  intro k
  induction k with
  |zero=>
   intro m hm hle
   have:m=n:=by omega
   subst this
   refine .inr ⟨fun i h1 h2=>by omega,?_⟩
   rw [z0h,stop]
  |succ k ih=>
   intro m hm hle
   have hlt:m<n:=by omega
   have hs:=step m hlt
   cases hP:P m with
   |true=>
    rw [hP] at hs
    refine .inl ⟨m,Nat.le_refl _,hlt,hP,fun j h1 h2=>by omega,?_⟩
    rw [z0h,hs]; rfl
   |false=>
    rw [hP] at hs
    have hit:z4n b (e m)=z4n b (e (m+1)):=by
     rw [z0h,hs]; rfl
    rcases ih (m+1) (by omega) hlt with ⟨i,h1,h2,h3,h4,h5⟩|⟨h1,h2⟩
    ·refine .inl ⟨i,by omega,h2,h3,fun j a b=>?_,by rw [hit]; exact h5⟩
     by_cases hj:j=m
     ·subst hj; exact hP
     ·exact h4 j (by omega) b
    ·refine .inr ⟨fun i a b=>?_,by rw [hit]; exact h2⟩
     by_cases hj:i=m
     ·subst hj; exact hP
     ·exact h1 i (by omega) b
 rcases key n 0 rfl (Nat.zero_le _) with ⟨i,_,h2,h3,h4,h5⟩|⟨h1,h2⟩
 ·exact .inl ⟨i,h2,h3,fun j hj=>h4 j (Nat.zero_le _) hj,h5⟩
 ·exact .inr ⟨fun i hi=>h1 i (Nat.zero_le _) hi,h2⟩
def eP (p:Pt):List D:=[.int .i64 p.1, .int .i64 p.2]
def z0d (l:List Pt):List (List D):=l.map eP
def eH (l:List Pt):List D:=[.list false 2 (z0d l)]
def z1s (h:List (List Pt)):List (List D):=h.map eH
theorem z0g (p:Pt):z3c [CK.int IntKind.i64,CK.int IntKind.i64] (eP p)=true:=rfl
theorem z0z (p:Pt):dI ((eP p)[0]?.getD D.nilp)=p.1:=rfl
theorem z0y (p:Pt):dI ((eP p)[1]?.getD D.nilp)=p.2:=rfl
theorem z67 (l:List Pt):z3c [CK.list 2] (eH l)=true:=rfl
theorem x2d (l:List Pt):dL ((eH l)[0]?.getD D.nilp)=z0d l:=rfl
def z6q (l:List Pt):Prop:=1≤l.length∧l.length≤12
instance (l:List Pt):Decidable (z6q l):=by unfold z6q; infer_instance
def z0m (lo hi:Int) (p:Pt):Prop:=lo≤p.1∧p.1≤hi∧lo≤p.2∧p.2≤hi
instance (lo hi:Int) (p:Pt):Decidable (z0m lo hi p):=by unfold z0m; infer_instance
theorem x6s (l:List Pt):G50 std (z0d l,())=some (decide (z6q l),()):=by
 unfold G50 z6q
 simp only [z0u,z0v,z0d]
 by_cases h1:1≤l.length
 ·have:(l.length:Int)>0:=by omega
  simp only [this,h1,true_and,if_true,Option.bind_some]
  congr 2
  rw [decide_eq_decide]; omega
 ·have:¬ (l.length:Int)>0:=by omega
  simp only [this,h1,false_and,if_false,Option.bind_some,decide_false]
theorem x6r (l:List Pt):G55 std (z0d l,())=some (decide (z6q l),()):=by
 unfold G55 z6q
 simp only [z0u,z0v,z0d]
 by_cases h1:1≤l.length
 ·have:(l.length:Int)≥1:=by omega
  simp only [this,h1,true_and,if_true,Option.bind_some]
  congr 2
  rw [decide_eq_decide]; omega
 ·have:¬ (l.length:Int)≥1:=by omega
  simp only [this,h1,false_and,if_false,Option.bind_some,decide_false]
theorem w7d (lo hi:Int) (l:List Pt) (hl:l.length≤1000000):G53 std (lo,hi,z0d l,())=some (decide (∀ p∈l,z0m lo hi p),()):=by
 unfold G53
 have key:=z3v (b:=w5p std) l.length (fun i=>(lo,hi,z0d l,(l.length:Int),(i:Int),())) (fun i=>!decide (z0m lo hi (l.getD i (0,0)))) (fun i=> .inl (lo,hi,(i:Int),())) (.inr (lo,hi,())) (fun i hi'=>by
  obtain ⟨m,hm⟩:=z0l hi'
  have hw:=z04 (i:=i) (by omega)
  have hlt:(i:Int)<l.length:=by omega
  have h0:(0:Int)≤i:=by omega
  have hg:l.getD i (0,0)=m:=by simp [List.getD_eq_getElem?_getD,hm]
  simp only [hg,w5p,z0u,z0v,z0d,z0g,z0z,z0y,hm,hlt,h0,ge_iff_le,z0b,hw]
  by_cases k:z0m lo hi m
  ·have k':=k
   obtain ⟨k1,k2,k3,k4⟩:=k'
   have e1:¬ min m.1 m.2<lo:=by omega
   have e2:¬ max m.1 m.2>hi:=by omega
   simp [k,e1,e2]
  ·by_cases e1:min m.1 m.2<lo
   ·simp [k,e1]
   ·have e2:max m.1 m.2>hi:=by
     refine Classical.byContradiction fun hc=>k ⟨?_,?_,?_,?_⟩<;>omega
    simp [k,e1,e2]) (by
  have hn:¬ (l.length:Int)<l.length:=by omega
  simp only [w5p,z0u,z0v,hn])
 have e0:(lo,hi,z0d l,std.ofNat (std.len (z0d l)),(0:Int),())=(lo,hi,z0d l,(l.length:Int),((0:Nat):Int),()):=by simp [z1k,z2t,z0d]
 simp only [g53,it0]
 rw [e0]
 rcases key with ⟨i,h1,h2,_,h4⟩|⟨h1,h2⟩
 ·rw [h4]
  have hne:¬ ∀ p∈l,z0m lo hi p:=fun h=>by
   obtain ⟨m,hm⟩:=z0l h1
   have:=h m (List.mem_of_getElem? hm)
   simp [List.getD_eq_getElem?_getD,hm,this] at h2
  have h0:(0:Int)≤i:=by omega
  simp only [z0u,z0v,decide_eq_false hne,ge_iff_le,h0]
 ·rw [h2]
  have ha:∀ p∈l,z0m lo hi p:=fun p hp=>by
   obtain ⟨i,hi'⟩:=List.getElem?_of_mem hp
   have:=h1 i (List.getElem?_eq_some_iff.1 hi').1
   simpa [List.getD_eq_getElem?_getD,hi'] using this
  simp only [z0u,z0v,decide_eq_true ha]
  decide
theorem w7c (lo hi:Int) (l:List Pt) (hl:l.length≤1000000):G56 std (z0d l,lo,hi,())=some (decide (∀ p∈l,z0m lo hi p),()):=by
 unfold G56
 have key:=z3v (b:=w5o std) l.length (fun i=>(z0d l,lo,hi,(i:Int),())) (fun i=>!decide (z0m lo hi (l.getD i (0,0)))) (fun i=> .inl (false,())) (.inr ()) (fun i hi'=>by
  obtain ⟨m,hm⟩:=z0l hi'
  have hw:=z04 (i:=i) (by omega)
  have hlt:(i:Int)<l.length:=by omega
  have h0:(0:Int)≤i:=by omega
  have hg:l.getD i (0,0)=m:=by simp [List.getD_eq_getElem?_getD,hm]
  simp only [hg,w5o,z0u,z0v,z0d,z0g,z0z,z0y,hm,hlt,h0,ge_iff_le,z0b,hw]
  by_cases k:z0m lo hi m
  ·have k':=k
   obtain ⟨k1,k2,k3,k4⟩:=k'
   have e1:¬ m.1<lo:=by omega
   have e2:¬ m.1>hi:=by omega
   have e3:¬ m.2<lo:=by omega
   have e4:¬ m.2>hi:=by omega
   simp [k,e1,e2,e3,e4,z0b,hw]
  ·by_cases e1:m.1<lo
   ·simp [k,e1]
   ·by_cases e2:m.1>hi
    ·simp [k,e1,e2]
    ·by_cases e3:m.2<lo
     ·simp [k,e1,e2,e3]
     ·have e4:m.2>hi:=by
       refine Classical.byContradiction fun hc=>k ⟨?_,?_,?_,?_⟩<;>omega
      simp [k,e1,e2,e3,e4,z0b,hw]) (by
  have hn:¬ (l.length:Int)<l.length:=by omega
  simp only [w5o,z0u,z0v,z0d,hn])
 have e0:(z0d l,lo,hi,(0:Int),())=(z0d l,lo,hi,((0:Nat):Int),()):=rfl
 simp only [g56,it0]
 rw [e0]
 rcases key with ⟨i,h1,h2,_,h4⟩|⟨h1,h2⟩
 ·rw [h4]
  have hne:¬ ∀ p∈l,z0m lo hi p:=fun h=>by
   obtain ⟨m,hm⟩:=z0l h1
   have:=h m (List.mem_of_getElem? hm)
   simp [List.getD_eq_getElem?_getD,hm,this] at h2
  simp only [z0u,z0v,decide_eq_false hne]
 ·rw [h2]
  have ha:∀ p∈l,z0m lo hi p:=fun p hp=>by
   obtain ⟨i,hi'⟩:=List.getElem?_of_mem hp
   have:=h1 i (List.getElem?_eq_some_iff.1 hi').1
   simpa [List.getD_eq_getElem?_getD,hi'] using this
  simp only [z0u,z0v,decide_eq_true ha]
end Go.Am
end
section
namespace Go.Am
open Go.ChangeShapes Go.WideShapes Go.ChangeAt M06
theorem v1d {x:D} (h:DK (.int .u8) x):∃ n:Int,x= .int .u8 n∧(Lit.int IntKind.u8 n).wf=true:=by
 match x,h with
 | .int k n,h=>obtain ⟨rfl,h⟩:=h; exact ⟨n,rfl,h⟩
theorem w6m {x:D} (h:DK (.int .i16) x):∃ n:Int,x= .int .i16 n∧(Lit.int IntKind.i16 n).wf=true:=by
 match x,h with
 | .int k n,h=>obtain ⟨rfl,h⟩:=h; exact ⟨n,rfl,h⟩
theorem x3n {es:List (List D)} (hr:∀ r∈es,DKs [.int .i64, .int .i64] r):∃ l:List Pt,es=z0d l:=by
 induction es with
 |nil=>exact ⟨[],rfl⟩
 |cons r es ih=>
  obtain ⟨l,rfl⟩:=ih fun r hr'=>hr r (List.mem_cons_of_mem _ hr')
  have h0:=hr r (List.mem_cons_self ..)
  match r,h0 with
  |[.int k1 a, .int k2 b],h0=>
   obtain ⟨⟨rfl,a1⟩,⟨rfl,a2⟩,_⟩:=h0
   exact ⟨(a,b)::l,rfl⟩
theorem x09 {x:D} (h:DK (.list [.int .i64, .int .i64]) x):∃ l:List Pt,x= .list false 2 (z0d l):=by
 match x,h with
 | .list f z es,h=>
  obtain ⟨rfl,rfl,hl,hr⟩:=h
  rw [z71] at hr
  clear hl
  obtain ⟨l,rfl⟩:=x3n hr
  exact ⟨l,rfl⟩
theorem w4h {x:D} (h:DK (.list [.list [.int .i64, .int .i64]]) x):∃ hs:List (List Pt),x= .list false 1 (z1s hs):=by
 match x,h with
 | .list f z es,h=>
  obtain ⟨rfl,rfl,hl,hr⟩:=h
  rw [z71] at hr
  clear hl
  have:∃ hs:List (List Pt),es=z1s hs:=by
   induction es with
   |nil=>exact ⟨[],rfl⟩
   |cons r es ih=>
    obtain ⟨ws,rfl⟩:=ih fun r hr'=>hr r (List.mem_cons_of_mem _ hr')
    have h0:=hr r (List.mem_cons_self ..)
    match r,h0 with
    |[y],h0=>
     obtain ⟨l,rfl⟩:=x09 h0.1
     exact ⟨l::ws,rfl⟩
  obtain ⟨ws,rfl⟩:=this
  exact ⟨ws,rfl⟩
theorem x5x {x:D} (h:∃ ds,x= .agg ds∧DKs [.list [.int .i64, .int .i64], .list [.list [.int .i64, .int .i64]]] ds):∃ (l:List Pt) (hs:List (List Pt)),x= .agg [.list false 2 (z0d l), .list false 1 (z1s hs)]:=by
 obtain ⟨ds,rfl,h⟩:=h
 match ds,h with
 |[a,b],h=>
  obtain ⟨l,rfl⟩:=x09 h.1
  obtain ⟨hs,rfl⟩:=w4h h.2.1
  exact ⟨l,hs,rfl⟩
def eB (n:Int):List D:=[.int .u8 n]
def y1v (l:List Int):List (List D):=l.map eB
theorem x6m {x:D} (h:DK (.list [.int .u8]) x):∃ l:List Int,x= .list false 1 (y1v l)∧∀ n∈l,(Lit.int IntKind.u8 n).wf=true:=by
 match x,h with
 | .list f z es,h=>
  obtain ⟨rfl,rfl,hl,hr⟩:=h
  rw [z71] at hr
  clear hl
  have:∃ l:List Int,es=y1v l∧∀ n∈l,(Lit.int IntKind.u8 n).wf=true:=by
   induction es with
   |nil=>exact ⟨[],rfl,by simp⟩
   |cons r es ih=>
    obtain ⟨l,rfl,h1⟩:=ih fun r hr'=>hr r (List.mem_cons_of_mem _ hr')
    have h0:=hr r (List.mem_cons_self ..)
    match r,h0 with
    |[y],h0=>
     obtain ⟨n,rfl,w⟩:=v1d h0.1
     refine ⟨n::l,rfl,fun m hm=>?_⟩
     rcases List.mem_cons.1 hm with rfl|hm
     ·exact w
     ·exact h1 m hm
  obtain ⟨l,rfl,h1⟩:=this
  exact ⟨l,rfl,h1⟩
end Go.Am
end
