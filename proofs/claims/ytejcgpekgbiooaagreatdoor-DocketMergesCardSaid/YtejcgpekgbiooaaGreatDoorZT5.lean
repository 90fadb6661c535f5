/- Texts of this claim. -/
import Derived.Test.YtejcgpekgbiooaaGreatDoorZT4
import Derived.Shelf.Strconv.Itoa4
import Derived.Shelf.Strconv.ParseIntPublic10
import Derived.Shelf.Strings.Prefix
import Derived.Shelf.Strings.Cut
import Derived.Shelf.Strings.Split
import Derived.Lib.SmallJoins
import Derived.Lib.AppendIntMem
import Derived.BigCall
import Derived.Lib.SlKeysI
import Derived.Shelf.SlIterI.Sorted
set_option linter.all false
set_option maxRecDepth 100000
set_option maxHeartbeats 0
open Go.World renaming cell?→eFc
open ByteArray renaming empty→eFk,mk→eCe
open Sum renaming inl→eAs,inr→eAm
open Ne renaming symm→eDa
open Nat renaming ble→eAz,le_of_ble_eq_true→eAl,zero_le→eBb,mul_one→eDg,add_zero→eBk,le_refl→eAp,zero_add→eAy,ble_eq_true_of_le→eCi,mul_le_mul_right→eBi,le_trans→eCt,blt→eBt,beq→eAk,eq_of_beq_eq_true→eAg,beq_refl→eGj
open Bool renaming and_eq_true→eAf,or_eq_true→eBh,not_eq_true'→eCy,false_and→eDn,or_false→eGd
open List renaming getElem?_eq_some_iff→eAe,getElem?_map→eAj,length_map→eBp,getElem?_eq_getElem→eAd,getD_eq_getElem?_getD→eAr,map_cons→eFs,take_add_one→eGb,mem_of_getElem?→eAn,take_of_length_le→eBz,take_length→eDf,mem_cons_of_mem→eCq,mem_cons_self→eBv,foldl_cons→eDo,length_cons→eCa,length_eq_zero_iff→eBw,all_eq_true→eBm,getElem?_set→eCr,getElem?_set_ne→eFa,getElem_mem→eDe,mem_cons→eBa,not_mem_nil→eCl,length_set→eFz,nodup_cons→eGm,ext_getElem?→eCj,getElem?_of_mem→eFo,getElem?_take_of_lt→eFy,mem_map→eBq
open Option renaming bind_some→eCb,map_eq_some_iff→eBy,map_some→eBo,getD_some→eCd
open Array renaming getElem?_eq_getElem→eBg,getElem?_eq_some_iff→eAi,getElem?_toList→eAt,getD_eq_getD_getElem?→eAq
open Int renaming toNat_natCast→eFf
open Go.Proofs.Tryz renaming prog → PG
section
namespace Go.Am
open Go Go.RowKit Go.Proofs
def w0s:List (List D)→Option (List ByteArray)
 |[]=>some []
 |[.str s]::l=>match w0s l with
  |some r=>some (s::r)
  |none=>none
 |_=>none
theorem x74:∀ {es:List (List D)} {xs:List ByteArray},w0s es=some xs→es=xs.map fun s=>[.str s]
 |[],xs,h=>by cases h; rfl
 |r::l,xs,h=>by
  unfold w0s at h
  split at h
  ·rename_i heq; cases heq
  ·rename_i s b heq
   cases heq
   split at h
   ·rename_i r' a
    cases h
    rw [x74 a]; rfl
   ·cases h
  ·cases h
def z5z (xs:List ByteArray) (sep:ByteArray):ByteArray:=⟨(Lib.join (xs.map (·.data.toList)) sep.data.toList).toArray⟩
def x42:Ctr:=⟨121,[.list 1, .str],[],[(.ret,⟨[(0, .str)],[],1⟩)]⟩
def v82 (_:Prim) (y:List (List D)×(ByteArray×Unit)):Option (ByteArray×Unit):=
 match w0s y.1 with
 |some a=>bif eAz (z5z a y.2.1).size 1000000&&eAz a.length 1000000 then some ((z5z a y.2.1,())) else none
 |none=>none
def t4w:Prim→Tup (x42).scs→Option (STup (scss (x42).outs)):=fun p x=>v82 p x
theorem t3x {ρ:Rho} {O:Nat→Prop} {w:World} {a:AV} {vs:Array Value} (h:z07 ρ O w [a] vs):∃ x,vs=#[x]∧z0q ρ O w a x:=by
 obtain ⟨b,e⟩:=h
 have b:vs.size=1:=b
 refine ⟨vs.getD 0 undef,?_,e 0 a rfl⟩
 apply Array.ext (by simpa using b)
 intro i d c
 have c:i<1:=c
 have:i=0:=by omega
 subst this
 simp [Array.getD,d]
theorem w7e {ρ:Rho} {O:Nat→Prop} {w:World} {a b:AV} {vs:Array Value} (h:z07 ρ O w [a,b] vs):∃ x y,vs=#[x,y]∧z0q ρ O w a x∧z0q ρ O w b y:=by
 obtain ⟨d,f⟩:=h
 have d:vs.size=2:=d
 refine ⟨vs.getD 0 undef,vs.getD 1 undef,?_,f 0 a rfl,f 1 b rfl⟩
 apply Array.ext (by simpa using d)
 intro i e c
 have c:i<2:=c
 match i,c with
 |0,_=>simp [Array.getD,e]
 |1,_=>simp [Array.getD,e]
theorem y21:Builder.Extra Tryz.prog y9j where
 sizeBuilder:=by kernel_rfl
 liesBuilder:=by kernel_rfl
 t5:=by exact Tryz.underlying5
 a5:=by exact Tryz.isAgg5
 z5:=by exact Tryz.sizeOf5
 v5:=by exact Tryz.zeroValue5
 infoByte:=by kernel_rfl
 cellsByte:=by kernel_rfl
 sizeByte:=by kernel_rfl
 neB5:=by decide
theorem u0p:CtrOk Tryz.prog x42 (t4w std):=by
 refine ⟨enters_of Tryz.func121 rfl rfl,fun x y i=>?_⟩
 obtain ⟨es,sep,u⟩:=x
 change v82 std (es,sep,u)=_ at i
 unfold v82 at i
 simp only at i
 split at i
 ·rename_i g H
  cases m:(eAz (z5z g sep).size 1000000&&eAz g.length 1000000) with
  |false=>rw [m] at i; cases i
  |true=>
   rw [m] at i
   cases i
   simp only [eAf] at m
   have N:=eAl m.1
   have M:=eAl m.2
   refine ⟨eBb _,?_⟩
   show z3s _ 121 [.d (.list false 1 es), .d (.str sep)] [] (.d (.str (z5z g sep))) []
   have l:=x74 H
   refine z2p fun ρ O w I K B=>?_
   obtain ⟨a,b,rfl,C,k⟩:=w7e B
   cases k with|d k=>
   cases k
   cases C with|d C=>
   have p:(Lib.join (g.map (·.data.toList)) sep.data.toList).length≤140737488355328:=by
    have:(z5z g sep).size=(Lib.join (g.map (·.data.toList)) sep.data.toList).length:=by simp [z5z,ByteArray.size]
    omega
   cases C with
   |lnil _ _ a c h=>
    cases g with
    |cons _ _=>cases l
    |nil=>
    exact (Any.strings_Join_none x1s y21 a c sep w).mono fun e G ⟨he,n⟩=>⟨_,he, .d (.str _),n▸Below.refl _ _⟩
   |list _ _ b o z c P s hO v Q E cell R L h=>
    subst l
    have f:∀ (j:Nat) x,g[j]?=some x→w.cell? ⟨b,o+j,none⟩=some (.string x):=fun j x F=>by
     have J:j<g.length:=(eAe.1 F).1
     have A:=h j [.str x] 0 (.str x) (by rw [eAj,F]; rfl) rfl
     rw [L j (by rw [eBp]; omega)]
     simp only [eDg,eBk] at A
     generalize cell j=q at A
     cases A; rfl
    have t:b<w.heap.size:=by
     cases g with
     |nil=>exact absurd rfl s
     |cons x r=>exact y19 (f 0 x rfl)
    have:=Any.strings_Join x1s y21 b o c g sep w f t (by omega) (by simpa using v) p
    rw [eBp]
    exact this.mono fun e G ⟨he,n⟩=>⟨_,he, .d (.str _),n⟩
 ·cases i
end Go.Am
end
section
namespace Go.Proofs
def x36:Go.Shelf.Ren:=⟨fun|338=>202|337=>201|318=>186|317=>185|129=>160|320=>188|319=>187|286=>164|285=>163|284=>162|283=>161|246=>143|173=>120|n=>n,fun|232=>226|233=>227|212=>206|51=>183|46=>162|213=>207|20=>20|173=>188|5=>5|37=>53|53=>100|0=>0|171=>186|4=>4|9=>9|3=>3|2=>2|n=>n,fun|18=>4|19=>5|17=>1|n=>n⟩
theorem u1d : Go.Proofs.Lays.n173 Tryz.prog x36 :=
  { mixed := by kernel_rfl,
    f129 := Tryz.func160.trans (congrArg some (by kernel_rfl)),
    f173 := Tryz.func120.trans (congrArg some (by kernel_rfl)),
    f246 := Tryz.func143.trans (congrArg some (by kernel_rfl)),
    f283 := Tryz.func161.trans (congrArg some (by kernel_rfl)),
    f284 := Tryz.func162.trans (congrArg some (by kernel_rfl)),
    f285 := Tryz.func163.trans (congrArg some (by kernel_rfl)),
    f286 := Tryz.func164.trans (congrArg some (by kernel_rfl)),
    f317 := Tryz.func185.trans (congrArg some (by kernel_rfl)),
    f318 := Tryz.func186.trans (congrArg some (by kernel_rfl)),
    f319 := Tryz.func187.trans (congrArg some (by kernel_rfl)),
    f320 := Tryz.func188.trans (congrArg some (by kernel_rfl)),
    f337 := Tryz.func201.trans (congrArg some (by kernel_rfl)),
    f338 := Tryz.func202.trans (congrArg some (by kernel_rfl)),
    t0 := Tryz.underlying0,
    a0 := Tryz.isAgg0,
    z0 := Tryz.sizeOf0,
    v0 := Tryz.zeroValue0,
    t2 := Tryz.underlying2,
    a2 := Tryz.isAgg2,
    z2 := Tryz.sizeOf2,
    v2 := Tryz.zeroValue2,
    t3 := Tryz.underlying3,
    a3 := Tryz.isAgg3,
    z3 := Tryz.sizeOf3,
    v3 := Tryz.zeroValue3,
    t4 := Tryz.underlying4,
    a4 := Tryz.isAgg4,
    z4 := Tryz.sizeOf4,
    v4 := Tryz.zeroValue4,
    t5 := Tryz.underlying5,
    a5 := Tryz.isAgg5,
    z5 := Tryz.sizeOf5,
    v5 := Tryz.zeroValue5,
    t9 := Tryz.underlying9,
    a9 := Tryz.isAgg9,
    z9 := Tryz.sizeOf9,
    v9 := Tryz.zeroValue9,
    t20 := Tryz.underlying20,
    a20 := Tryz.isAgg20,
    z20 := Tryz.sizeOf20,
    v20 := Tryz.zeroValue20,
    t37 := Tryz.underlying53,
    a37 := Tryz.isAgg53,
    z37 := Tryz.sizeOf53,
    v37 := Tryz.zeroValue53,
    t46 := Tryz.underlying162,
    a46 := Tryz.isAgg162,
    z46 := Tryz.sizeOf162,
    v46 := Tryz.zeroValue162,
    t51 := Tryz.underlying183,
    a51 := Tryz.isAgg183,
    z51 := Tryz.sizeOf183,
    v51 := Tryz.zeroValue183,
    t53 := Tryz.underlying100,
    a53 := Tryz.isAgg100,
    z53 := Tryz.sizeOf100,
    v53 := Tryz.zeroValue100,
    t171 := Tryz.underlying186,
    a171 := Tryz.isAgg186,
    z171 := Tryz.sizeOf186,
    v171 := Tryz.zeroValue186,
    t173 := Tryz.underlying188,
    a173 := Tryz.isAgg188,
    z173 := Tryz.sizeOf188,
    v173 := Tryz.zeroValue188,
    t212 := Tryz.underlying206,
    a212 := Tryz.isAgg206,
    z212 := Tryz.sizeOf206,
    v212 := Tryz.zeroValue206,
    t213 := Tryz.underlying207,
    a213 := Tryz.isAgg207,
    z213 := Tryz.sizeOf207,
    t232 := Tryz.underlying226,
    a232 := Tryz.isAgg226,
    z232 := Tryz.sizeOf226,
    v232 := Tryz.zeroValue226,
    t233 := Tryz.underlying227,
    a233 := Tryz.isAgg227,
    z233 := Tryz.sizeOf227,
    v233 := Tryz.zeroValue227,
    g17 := by kernel_rfl,
    g18 := by kernel_rfl,
    g19 := by kernel_rfl }
def y65:Go.Shelf.Ren:=⟨fun|338=>202|337=>201|318=>186|317=>185|129=>160|320=>188|319=>187|286=>164|285=>163|284=>162|283=>161|246=>143|243=>204|205=>198|171=>199|316=>197|322=>196|321=>195|287=>174|282=>178|281=>177|280=>176|279=>175|245=>149|247=>148|174=>127|n=>n,fun|80=>71|232=>226|233=>227|212=>206|51=>183|213=>207|20=>20|173=>188|171=>186|21=>21|127=>149|143=>223|145=>225|210=>218|0=>0|37=>53|46=>162|175=>194|53=>100|5=>5|168=>196|167=>193|4=>4|85=>154|75=>120|2=>2|3=>3|9=>9|n=>n,fun|18=>4|19=>5|17=>1|15=>2|16=>3|n=>n⟩
theorem u1c : Go.Proofs.Lays.n174 Tryz.prog y65 :=
  { mixed := by kernel_rfl,
    f129 := Tryz.func160.trans (congrArg some (by kernel_rfl)),
    f171 := Tryz.func199.trans (congrArg some (by kernel_rfl)),
    f174 := Tryz.func127.trans (congrArg some (by kernel_rfl)),
    f205 := Tryz.func198.trans (congrArg some (by kernel_rfl)),
    f243 := Tryz.func204.trans (congrArg some (by kernel_rfl)),
    f245 := Tryz.func149.trans (congrArg some (by kernel_rfl)),
    f246 := Tryz.func143.trans (congrArg some (by kernel_rfl)),
    f247 := Tryz.func148.trans (congrArg some (by kernel_rfl)),
    f279 := Tryz.func175.trans (congrArg some (by kernel_rfl)),
    f280 := Tryz.func176.trans (congrArg some (by kernel_rfl)),
    f281 := Tryz.func177.trans (congrArg some (by kernel_rfl)),
    f282 := Tryz.func178.trans (congrArg some (by kernel_rfl)),
    f283 := Tryz.func161.trans (congrArg some (by kernel_rfl)),
    f284 := Tryz.func162.trans (congrArg some (by kernel_rfl)),
    f285 := Tryz.func163.trans (congrArg some (by kernel_rfl)),
    f286 := Tryz.func164.trans (congrArg some (by kernel_rfl)),
    f287 := Tryz.func174.trans (congrArg some (by kernel_rfl)),
    f316 := Tryz.func197.trans (congrArg some (by kernel_rfl)),
    f317 := Tryz.func185.trans (congrArg some (by kernel_rfl)),
    f318 := Tryz.func186.trans (congrArg some (by kernel_rfl)),
    f319 := Tryz.func187.trans (congrArg some (by kernel_rfl)),
    f320 := Tryz.func188.trans (congrArg some (by kernel_rfl)),
    f321 := Tryz.func195.trans (congrArg some (by kernel_rfl)),
    f322 := Tryz.func196.trans (congrArg some (by kernel_rfl)),
    f337 := Tryz.func201.trans (congrArg some (by kernel_rfl)),
    f338 := Tryz.func202.trans (congrArg some (by kernel_rfl)),
    t0 := Tryz.underlying0,
    a0 := Tryz.isAgg0,
    z0 := Tryz.sizeOf0,
    v0 := Tryz.zeroValue0,
    t2 := Tryz.underlying2,
    a2 := Tryz.isAgg2,
    z2 := Tryz.sizeOf2,
    v2 := Tryz.zeroValue2,
    t3 := Tryz.underlying3,
    a3 := Tryz.isAgg3,
    z3 := Tryz.sizeOf3,
    v3 := Tryz.zeroValue3,
    t4 := Tryz.underlying4,
    a4 := Tryz.isAgg4,
    z4 := Tryz.sizeOf4,
    v4 := Tryz.zeroValue4,
    t5 := Tryz.underlying5,
    a5 := Tryz.isAgg5,
    z5 := Tryz.sizeOf5,
    v5 := Tryz.zeroValue5,
    t9 := Tryz.underlying9,
    a9 := Tryz.isAgg9,
    z9 := Tryz.sizeOf9,
    v9 := Tryz.zeroValue9,
    t20 := Tryz.underlying20,
    a20 := Tryz.isAgg20,
    z20 := Tryz.sizeOf20,
    v20 := Tryz.zeroValue20,
    t21 := Tryz.underlying21,
    a21 := Tryz.isAgg21,
    z21 := Tryz.sizeOf21,
    v21 := Tryz.zeroValue21,
    t37 := Tryz.underlying53,
    a37 := Tryz.isAgg53,
    z37 := Tryz.sizeOf53,
    v37 := Tryz.zeroValue53,
    t46 := Tryz.underlying162,
    a46 := Tryz.isAgg162,
    z46 := Tryz.sizeOf162,
    v46 := Tryz.zeroValue162,
    t51 := Tryz.underlying183,
    a51 := Tryz.isAgg183,
    z51 := Tryz.sizeOf183,
    v51 := Tryz.zeroValue183,
    t53 := Tryz.underlying100,
    a53 := Tryz.isAgg100,
    z53 := Tryz.sizeOf100,
    v53 := Tryz.zeroValue100,
    t75 := Tryz.underlying120,
    a75 := Tryz.isAgg120,
    z75 := Tryz.sizeOf120,
    v75 := Tryz.zeroValue120,
    t85 := Tryz.underlying154,
    a85 := Tryz.isAgg154,
    z85 := Tryz.sizeOf154,
    v85 := Tryz.zeroValue154,
    t127 := Tryz.underlying149,
    a127 := Tryz.isAgg149,
    z127 := Tryz.sizeOf149,
    v127 := Tryz.zeroValue149,
    t143 := Tryz.underlying223,
    a143 := Tryz.isAgg223,
    z143 := Tryz.sizeOf223,
    v143 := Tryz.zeroValue223,
    t145 := Tryz.underlying225,
    a145 := Tryz.isAgg225,
    z145 := Tryz.sizeOf225,
    v145 := Tryz.zeroValue225,
    t167 := Tryz.underlying193,
    a167 := Tryz.isAgg193,
    z167 := Tryz.sizeOf193,
    v167 := Tryz.zeroValue193,
    t168 := Tryz.underlying196,
    a168 := Tryz.isAgg196,
    z168 := Tryz.sizeOf196,
    v168 := Tryz.zeroValue196,
    t171 := Tryz.underlying186,
    a171 := Tryz.isAgg186,
    z171 := Tryz.sizeOf186,
    v171 := Tryz.zeroValue186,
    t173 := Tryz.underlying188,
    a173 := Tryz.isAgg188,
    z173 := Tryz.sizeOf188,
    v173 := Tryz.zeroValue188,
    t175 := Tryz.underlying194,
    a175 := Tryz.isAgg194,
    z175 := Tryz.sizeOf194,
    v175 := Tryz.zeroValue194,
    t210 := Tryz.underlying218,
    a210 := Tryz.isAgg218,
    z210 := Tryz.sizeOf218,
    v210 := Tryz.zeroValue218,
    t212 := Tryz.underlying206,
    a212 := Tryz.isAgg206,
    z212 := Tryz.sizeOf206,
    v212 := Tryz.zeroValue206,
    t213 := Tryz.underlying207,
    a213 := Tryz.isAgg207,
    z213 := Tryz.sizeOf207,
    t232 := Tryz.underlying226,
    a232 := Tryz.isAgg226,
    z232 := Tryz.sizeOf226,
    v232 := Tryz.zeroValue226,
    t233 := Tryz.underlying227,
    a233 := Tryz.isAgg227,
    z233 := Tryz.sizeOf227,
    v233 := Tryz.zeroValue227,
    g15 := by kernel_rfl,
    g16 := by kernel_rfl,
    g17 := by kernel_rfl,
    g18 := by kernel_rfl,
    g19 := by kernel_rfl }
theorem w4v : Go.Proofs.LaysM.n173 Tryz.prog x36 :=
  { u1d with
    i0 := by kernel_rfl,
    i2 := by kernel_rfl,
    i3 := by kernel_rfl,
    i4 := by kernel_rfl,
    i5 := by kernel_rfl,
    i9 := by kernel_rfl,
    i20 := by kernel_rfl,
    i37 := by kernel_rfl,
    i46 := by kernel_rfl,
    i51 := by kernel_rfl,
    i53 := by kernel_rfl,
    i171 := by kernel_rfl,
    i173 := by kernel_rfl,
    i212 := by kernel_rfl,
    i232 := by kernel_rfl,
    i233 := by kernel_rfl,
    m17 := by kernel_rfl,
    m18 := by kernel_rfl,
    m19 := by kernel_rfl }
theorem v6q : Go.Proofs.LaysM.n174 Tryz.prog y65 :=
  { u1c with
    t80 := Tryz.underlying71,
    a80 := Tryz.isAgg71,
    z80 := Tryz.sizeOf71,
    v80 := Tryz.zeroValue71,
    i0 := by kernel_rfl,
    i2 := by kernel_rfl,
    i3 := by kernel_rfl,
    i4 := by kernel_rfl,
    i5 := by kernel_rfl,
    i9 := by kernel_rfl,
    i20 := by kernel_rfl,
    i21 := by kernel_rfl,
    i37 := by kernel_rfl,
    i46 := by kernel_rfl,
    i51 := by kernel_rfl,
    i53 := by kernel_rfl,
    i75 := by kernel_rfl,
    i80 := by kernel_rfl,
    i85 := by kernel_rfl,
    i127 := by kernel_rfl,
    i143 := by kernel_rfl,
    i145 := by kernel_rfl,
    i167 := by kernel_rfl,
    i168 := by kernel_rfl,
    i171 := by kernel_rfl,
    i173 := by kernel_rfl,
    i175 := by kernel_rfl,
    i210 := by kernel_rfl,
    i212 := by kernel_rfl,
    i232 := by kernel_rfl,
    i233 := by kernel_rfl,
    m15 := by kernel_rfl,
    m16 := by kernel_rfl,
    m17 := by kernel_rfl,
    m18 := by kernel_rfl,
    m19 := by kernel_rfl }
theorem x6z : Go.Proofs.LaysC.n174 Tryz.prog y65 :=
  { toM := v6q,
    c0 := by kernel_rfl,
    c2 := by kernel_rfl,
    c3 := by kernel_rfl,
    c4 := by kernel_rfl,
    c5 := by kernel_rfl,
    c9 := by kernel_rfl,
    c20 := by kernel_rfl,
    c21 := by kernel_rfl,
    c37 := by kernel_rfl,
    c46 := by kernel_rfl,
    c51 := by kernel_rfl,
    c53 := by kernel_rfl,
    c75 := by kernel_rfl,
    c80 := by kernel_rfl,
    c85 := by kernel_rfl,
    c127 := by kernel_rfl,
    c143 := by kernel_rfl,
    c145 := by kernel_rfl,
    c167 := by kernel_rfl,
    c168 := by kernel_rfl,
    c171 := by kernel_rfl,
    c173 := by kernel_rfl,
    c175 := by kernel_rfl,
    c210 := by kernel_rfl,
    c212 := by kernel_rfl,
    c213 := by kernel_rfl,
    c232 := by kernel_rfl,
    c233 := by kernel_rfl }
end Go.Proofs
namespace Go.Am
open Go Go.RowKit Go.Proofs
theorem v8m {ρ:Rho} {O:Nat→Prop} {w:World} {a b c:AV} {vs:Array Value} (h:z07 ρ O w [a,b,c] vs):∃ x y z,vs=#[x,y,z]∧z0q ρ O w a x∧z0q ρ O w b y∧z0q ρ O w c z:=by
 obtain ⟨g,f⟩:=h
 have g:vs.size=3:=g
 refine ⟨vs.getD 0 undef,vs.getD 1 undef,vs.getD 2 undef,?_,f 0 a rfl,f 1 b rfl,f 2 c rfl⟩
 apply Array.ext (by simpa using g)
 intro i e d
 have d:i<3:=d
 match i,d with
 |0,_=>simp [Array.getD,e]
 |1,_=>simp [Array.getD,e]
 |2,_=>simp [Array.getD,e]
theorem x5w {P:Program} {O:Nat→Prop} {w:World} (hg:GL P O w) {g:Nat} {name:String} {k:IntKind} {zs:List Int} (f:P.globalNamed name=some g) (j:y12 P g=some (zs.map fun z=>D.int k z)):Lib.TabIs P w name k zs:=by
 obtain ⟨h,_,a,n⟩:=hg.lay g _ j
 unfold Lib.TabIs World.var?
 rw [f]
 unfold z1c at a
 cases d:w.heap[g]? with
 |none=>rw [d] at a; cases a
 |some o=>
  cases o with
  |cells c t fr=>
   rw [d] at a
   simp only [Option.some.injEq,eBp] at a
   simp only [eCb,d,Option.some.injEq]
   apply Array.ext (by simpa using a)
   intro i p q
   have l:i<zs.length:=by omega
   obtain ⟨v,e,m⟩:=n i (.int k zs[i]) (by rw [eAj,eAd l]; rfl)
   have b:c[i]?=some v:=by
    unfold eFc at e
    simp only [d] at e
    simpa using e
   rw [eBg p] at b
   have:=m (fun _=>False) w
   cases this
   simpa using b
  |_=>rw [d] at a; cases a
theorem y4k {P:Program} {O:Nat→Prop} {w:World} (hg:GL P O w) {g:Nat} (h:y1f P g=some true):∃ m,w.cell? ⟨g,0,none⟩=some (.int .i64 m):=by
 obtain ⟨_,_,v,a,n,rfl⟩:=hg.shp g true h
 exact ⟨n,a⟩
theorem x4r {P:Program} {O:Nat→Prop} {w:World} (hg:GL P O w) {g:Nat} (h:y1f P g=some false):∃ v,w.cell? ⟨g,0,none⟩=some v∧(v= .nilIface∨∃ t p,v= .iface t p):=by
 obtain ⟨_,_,v,a,b⟩:=hg.shp g false h
 exact ⟨v,a,b⟩
theorem w07:y12 Tryz.prog 1=some (Lib.pow10Tab.map fun z=>D.int .u64 z):=by kernel_rfl
theorem t47:y1f Tryz.prog 0=some true:=by kernel_rfl
theorem shp2:y1f Tryz.prog 2=some false:=by kernel_rfl
theorem shp3:y1f Tryz.prog 3=some false:=by kernel_rfl
def y8g (n:Int):Bool:=decide (-9223372036854775808≤n)&&decide (n≤9223372036854775807)
def z43 (n:Int):ByteArray:=⟨(Lib.itoa n).toArray⟩
def x43:Ctr:=⟨120,[.int .i64, .int .i64],[],[(.ret,⟨[(0, .str)],[],1⟩)]⟩
def v4x (_:Prim) (x:Int×(Int×Unit)):Option (ByteArray×Unit):=bif y8g x.1&&decide (x.2.1=10) then some (z43 x.1,()) else none
def t4x:Prim→Tup (x43).scs→Option (STup (scss (x43).outs)):=fun p x=>v4x p x
theorem u0q:CtrOk Tryz.prog x43 (t4x std):=by
 refine ⟨enters_of Tryz.func120 rfl rfl,fun (x:Int×(Int×Unit)) y f=>?_⟩
 obtain ⟨n,b,u⟩:=x
 change v4x std (n,b,u)=_ at f
 unfold v4x at f
 cases c:(y8g n&&decide (b=10)) with
 |false=>rw [c] at f; cases f
 |true=>
  rw [c] at f
  cases f
  simp only [y8g,eAf,decide_eq_true_eq] at c
  obtain ⟨⟨o,m⟩,rfl⟩:=c
  refine ⟨eBb _,?_⟩
  show z3s _ 120 [.d (.int .i64 n), .d (.int .i64 10)] [] (.d (.str (z43 n))) []
  refine z2p fun ρ q w l g h=>?_
  obtain ⟨a,b,rfl,i,c⟩:=w7e h
  cases i with|d i=>cases c with|d c=>
  cases i; cases c
  refine (Any.strconv_FormatInt_10 w4v n o m w (x5w g w4v.m17 w07)).mono fun e p ⟨he,k,r,j⟩=>⟨_,he, .d (.str _),?_⟩
  rw [j]; exact Go.Lib.below_grow _ _ (eAp _) _ _
def v9w (s p:ByteArray):ByteArray:=⟨(Lib.trimSuffix s.data.toList p.data.toList).toArray⟩
def x92:Ctr:=⟨126,[.str, .str],[],[(.ret,⟨[(0, .str)],[],1⟩)]⟩
def t4t (_:Prim) (x:ByteArray×(ByteArray×Unit)):Option (ByteArray×Unit):=bif eAz x.1.size 1000000 then some (v9w x.1 x.2.1,()) else none
def t58:Prim→Tup (x92).scs→Option (STup (scss (x92).outs)):=fun p x=>t4t p x
theorem u9o:CtrOk Tryz.prog x92 (t58 std):=by
 refine ⟨enters_of Tryz.func126 rfl rfl,fun x y f=>?_⟩
 obtain ⟨s,q,u⟩:=x
 change t4t std (s,q,u)=_ at f
 unfold t4t at f
 cases g:eAz s.size 1000000 with
 |false=>rw [g] at f; cases f
 |true=>
  rw [g] at f
  cases f
  have g:=eAl g
  refine ⟨eBb _,?_⟩
  show z3s _ 126 [.d (.str s), .d (.str q)] [] (.d (.str (v9w s q))) []
  refine z2p fun ρ n w k l h=>?_
  obtain ⟨a,b,rfl,i,c⟩:=w7e h
  cases i with|d i=>cases c with|d c=>
  cases i; cases c
  exact (Any.strings_TrimSuffix v6p s q w (by omega)).mono fun e m ⟨he,j⟩=>⟨_,he, .d (.str _),j▸Below.refl _ _⟩
def y1e (s sep:ByteArray):List ByteArray:=Lib.splitB sep 0 (Lib.countB s sep) s
def z4t (l:List ByteArray):List (List D):=l.map fun s=>[.str s]
def x93:Ctr:=⟨125,[.str, .str],[],[(.ret,⟨[(0, .list 1)],[],1⟩)]⟩
def t4u (_:Prim) (x:ByteArray×(ByteArray×Unit)):Option (List (List D)×Unit):=bif eAz x.1.size 1000000&&eAz 1 x.2.1.size then some (z4t (y1e x.1 x.2.1),()) else none
def t6a:Prim→Tup (x93).scs→Option (STup (scss (x93).outs)):=fun p x=>t4u p x
theorem hi9:(Tryz.prog.info? (y64.t 9)).map (fun i=>(i.zero,i.size,i.bytes))=some (some (.string eFk),1,16):=by kernel_rfl
theorem u9p:CtrOk Tryz.prog x93 (t6a std):=by
 refine ⟨enters_of Tryz.func125 rfl rfl,fun x y l=>?_⟩
 obtain ⟨s,sep,u⟩:=x
 change t4u std (s,sep,u)=_ at l
 unfold t4u at l
 cases t:(eAz s.size 1000000&&eAz 1 sep.size) with
 |false=>rw [t] at l; cases l
 |true=>
  rw [t] at l
  cases l
  simp only [eAf] at t
  have N:=eAl t.1
  have q:=eAl t.2
  refine ⟨eBb _,?_⟩
  show z3s _ 125 [.d (.str s), .d (.str sep)] [] (.d (.list false 1 (z4t (y1e s sep)))) []
  refine y8o fun ρ P w v C B E=>?_
  obtain ⟨a,b,rfl,F,h⟩:=w7e E
  cases F with|d F=>cases h with|d h=>
  cases F; cases h
  obtain ⟨m,hm⟩:=y4k B t47
  refine (Any.strings_Split w9s hi9 s sep m w (by omega) hm q).mono fun e G ⟨he,H⟩=>⟨_,he,?_,?_⟩
  ·have c:(y1e s sep).length=Lib.countB s sep+1:=Lib.splitB_all sep q 0 _ s rfl
   have z:z4t (y1e s sep)≠[]:=by
    intro e
    have:=congrArg List.length e
    simp [z4t,c] at this
   have n:(z4t (y1e s sep)).length=Lib.countB s sep+1:=by simp [z4t,c]
   have g:∀ k,k<Lib.countB s sep+1→G.cell? ⟨w.heap.size,k,none⟩=some (.string ((y1e s sep).getD k eFk)):=by
    intro k A
    rw [H]
    unfold eFc World.alloc
    have o:k<(y1e s sep).length:=by omega
    simp [y1e] at o⊢
    simp [o]
   have key:=z1m.list (O:=z0f ρ []) (w:=G) false (z4t (y1e s sep)) w.heap.size 0 1 (Lib.countB s sep+1) (by omega) z (fun K=>by
     rcases K with M|⟨id,L,I,_⟩
     ·exact Nat.lt_irrefl _ (C _ M)
     ·rw [v id] at I; cases I) (by omega) (by simp) (fun i r f=>by
     unfold z4t at f
     rw [eAj] at f
     obtain ⟨x,_,rfl⟩:=eBy.1 f
     rfl) (fun k=> .string ((y1e s sep).getD k eFk)) (fun k _=>rfl) (fun k A=>by
     rw [eDg,n] at A
     rw [eAy]
     exact g k A) (fun i r j d f p=>by
     unfold z4t at f
     rw [eAj] at f
     obtain ⟨x,J,rfl⟩:=eBy.1 f
     match j,p with
     |0,p=>
      cases p
      rw [eDg,eBk,eAr,J]
      exact .str _
     |j+1,p=>simp at p)
   rw [n] at key
   exact .d key
  ·rw [H]; exact (Below.refl _ w).alloc (eAp _) _
def v9j (s sep:ByteArray):ByteArray×ByteArray×Bool:=(⟨(Lib.cut s.data.toList sep.data.toList).1.toArray⟩,⟨(Lib.cut s.data.toList sep.data.toList).2.1.toArray⟩,(Lib.cut s.data.toList sep.data.toList).2.2)
def v04:Ctr:=⟨87,[.str, .str],[],[(.ret,⟨[(0, .tuple [.str, .str, .bool])],[],1⟩)]⟩
def G87 (_:Prim) (x:ByteArray×(ByteArray×Unit)):Option (ByteArray×(ByteArray×(Bool×Unit))):=bif eAz x.1.size 1000000 then some ((v9j x.1 x.2.1).1,((v9j x.1 x.2.1).2.1,((v9j x.1 x.2.1).2.2,()))) else none
def F87:Prim→Tup (v04).scs→Option (STup (scss (v04).outs)):=fun p x=>G87 p x
theorem ok87:CtrOk Tryz.prog v04 (F87 std):=by
 refine ⟨enters_of Tryz.func87 rfl rfl,fun x y g=>?_⟩
 obtain ⟨s,sep,u⟩:=x
 change G87 std (s,sep,u)=_ at g
 unfold G87 at g
 cases h:eAz s.size 1000000 with
 |false=>rw [h] at g; cases g
 |true=>
  rw [h] at g
  cases g
  have h:=eAl h
  refine ⟨eBb _,?_⟩
  show z3s _ 87 [.d (.str s), .d (.str sep)] [] (.tuple [.d (.str (v9j s sep).1), .d (.str (v9j s sep).2.1), .d (.bool (v9j s sep).2.2)]) []
  refine z2p fun ρ r w p j k=>?_
  obtain ⟨a,b,rfl,l,f⟩:=w7e k
  cases l with|d l=>cases f with|d f=>
  cases l; cases f
  obtain ⟨m,hm⟩:=y4k j t47
  refine (Any.strings_Cut u1e s sep m w (by omega) hm).mono fun e q ⟨he,n,o⟩=>⟨_,he, .tuple _ _ rfl fun i x c=>?_,?_⟩
  ·match i,c with
   |0,c=>cases c; exact .d (.str _)
   |1,c=>cases c; exact .d (.str _)
   |2,c=>cases c; exact .d (.bool _)
   |i+3,c=>simp at c
  ·rw [o]; exact ⟨rfl,rfl,rfl,eAp _,fun _ _=>rfl⟩
def x91:Ctr:=⟨127,[.str, .int .i64, .int .i64],[],[(.ret,⟨[(0, .tuple [.int .i64, .nili])],[],1⟩),(.ret,⟨[(0, .tuple [.int .i64, .ifc 196])],[],1⟩)]⟩
def t4s (_:Prim) (x:ByteArray×(Int×(Int×Unit))):Option ((Int×Unit)⊕(Int×Unit)):=
 bif eAz x.1.size 1000000&&(decide (x.2.1=10)&&decide (x.2.2.1=64)) then
  match Lib.parseIntB 64 x.1.data.toList with
  | .ok v=>some (.inl (v,()))
  | .range=>some (.inr (Lib.intSat 64 x.1.data.toList,()))
  |_=>some (.inr (0,()))
 else none
def t56:Prim→Tup (x91).scs→Option (STup (scss (x91).outs)):=fun p x=>t4s p x
theorem u9n:CtrOk Tryz.prog x91 (t56 std):=by
 refine ⟨enters_of Tryz.func127 rfl rfl,fun (x:ByteArray×(Int×(Int×Unit))) y m=>?_⟩
 obtain ⟨s,b,k,u⟩:=x
 change t4s std (s,b,k,u)=_ at m
 unfold t4s at m
 cases r:(eAz s.size 1000000&&(decide (b=10)&&decide (k=64))) with
 |false=>rw [r] at m; cases m
 |true=>
  rw [r] at m
  simp only [eAf,decide_eq_true_eq] at r
  obtain ⟨I,rfl,rfl⟩:=r
  have I:=eAl I
  simp only [cond_true] at m
  split at m
  ·rename_i v B
   cases m
   refine ⟨eBb _,?_⟩
   show z3s _ 127 [.d (.str s), .d (.int .i64 10), .d (.int .i64 64)] [] (.tuple [.d (.int .i64 v), .d .nili]) []
   refine z2p fun ρ H w q n j=>?_
   obtain ⟨a,b,c,rfl,l,g,h⟩:=v8m j
   cases l with|d l=>cases g with|d g=>cases h with|d h=>
   cases l; cases g; cases h
   refine (Any.strconv_ParseInt_10_at64_ok x6z s (by omega) v B w).mono fun e G ⟨he,p⟩=>⟨_,he, .tuple _ _ rfl fun i x f=>?_,?_⟩
   ·match i,f with
    |0,f=>cases f; exact .d (.int _ _)
    |1,f=>cases f; exact .d .nili
    |i+2,f=>simp at f
   ·rcases p with rfl|⟨t,rfl⟩
    ·exact Below.refl _ _
    ·exact Go.Joins.below_bytesWorld _ _ _ _ (eAp _)
  ·rename_i B
   cases m
   refine ⟨eBb _,?_⟩
   show z3s _ 127 [.d (.str s), .d (.int .i64 10), .d (.int .i64 64)] [] (.tuple [.d (.int .i64 (Lib.intSat 64 s.data.toList)), .iface 196 .bot]) []
   refine z2p fun ρ H w q n j=>?_
   obtain ⟨a,b,c,rfl,l,g,h⟩:=v8m j
   cases l with|d l=>cases g with|d g=>cases h with|d h=>
   cases l; cases g; cases h
   obtain ⟨F,o,C⟩:=x4r n shp3
   refine (Any.strconv_ParseInt_10_at64_range x6z s (by omega) B F w o C).mono fun e G ⟨N,he,_,_,p⟩=>⟨_,he, .tuple _ _ rfl fun i x f=>?_,p⟩
   match i,f with
   |0,f=>cases f; exact .d (.int _ _)
   |1,f=>cases f; exact .iface _ _ _ (.bot _)
   |i+2,f=>simp at f
  ·rename_i A z
   cases m
   refine ⟨eBb _,?_⟩
   show z3s _ 127 [.d (.str s), .d (.int .i64 10), .d (.int .i64 64)] [] (.tuple [.d (.int .i64 0), .iface 196 .bot]) []
   refine z2p fun ρ H w q n j=>?_
   obtain ⟨a,b,c,rfl,l,g,h⟩:=v8m j
   cases l with|d l=>cases g with|d g=>cases h with|d h=>
   cases l; cases g; cases h
   obtain ⟨F,o,C⟩:=x4r n shp2
   cases E:Lib.parseIntB 64 s.data.toList with
   |ok v=>exact absurd E (A v)
   |range=>exact absurd E z
   |_=>
   refine (Any.strconv_ParseInt_10_at64_syntax x6z s (by omega) E F w o C).mono fun e G ⟨N,he,_,_,p⟩=>⟨_,he, .tuple _ _ rfl fun i x f=>?_,p⟩
   match i,f with
   |0,f=>cases f; exact .d (.int _ _)
   |1,f=>cases f; exact .iface _ _ _ (.bot _)
   |i+2,f=>simp at f
end Go.Am
end
noncomputable section
namespace Go.Am
def t3h:Ctr:=
 ⟨84,[.agg [.int .i64, .int .i64, .list 1, .int .i64]],[],[(.ret,⟨[(0, .str)],[],1⟩)]⟩
def la84:List LA:=
 [⟨84,[fU,tU,fU,tU,tU,tU],0,⟨⟨[(1, .bptr 0 0),(4, .sl 1 1),(17, .list 1),(18, .int .i64),(19, .int .i64)],[o0m, .row [CK.str]],37⟩,[((AX.exit 0),⟨[(1, .bptr 0 0),(4, .sl 1 1)],[o0m, .row [CK.str]],37⟩)]⟩⟩]
def ja84:List JA:=
 []
def t1t:List CF:=
 [⟨x42,t4w⟩,⟨x43,t4x⟩,⟨v79,G55⟩]
def an84:Anns:=
 ⟨t1t,ja84,[]⟩
def w6r (p:Prim):V61v→Option (V61v⊕(LD×(Int×(Int×(LD×(Int×V11v)))))):=
 fun a=>let A:=a.2.2.2.2.2.2.2.2.2.1;let B:=a.2.2.2.2.2.2.1;let C:=a.2.2.2.2.2.2.2.1;let E:=a.2.2.2.2.2.1; opt.run _ (
 aK (p.cmp .lss A a.2.2.2.2.2.2.2.2.1) (
 nD (p.rowOk C (p.nat A) [ci])<|
 nD (p.cmp .geq A 0)<|
 opt.bnd (V57v) _ (v4x p ((p.rdI C (p.nat A) 0),((10:Int),()))) fun b=>
 nD (p.and (p.leN (p.add 0 1) (p.len [[(D.str b.1)]])) (p.and (p.leN (p.add E B) (p.len a.1)) (p.and (p.leN 1 1) (p.leN (p.add B 1) 1000000))))<|
 rT (eAs ((p.app (p.cut a.1 E B) (p.cut [[(D.str b.1)]] 0 1)),(a.2.1,(a.2.2.1,(a.2.2.2.1,(a.2.2.2.2.1,(0,((p.add B 1),(C,(a.2.2.2.2.2.2.2.2.1,((p.ar .add .i64 A 1),())))))))))))) (
 rT (eAm (a.1,(a.2.1,(a.2.2.1,(a.2.2.2.1,(a.2.2.2.2.1,(E,(B,()))))))))))
def G84:(p:Prim)→V12v→Option (V57v):=
 fun p x=>
 opt.bnd (V8v) _ (G55 p (x.2.1,())) fun a=>
 opt.bnd (V57v) _ (v4x p (x.1,((10:Int),()))) fun b=>let C:=[[(D.str a.1)],[(D.str b.1)]];
 nD (p.leN (p.add 0 2) (p.len C))<|
 opt.bnd ((LD×(Int×(Int×(LD×(Int×V11v)))))) _ (
 z1a (w6r p) (C,(x.1,(x.2.1,(x.2.2.1,(x.2.2.2.1,(0,(2,(x.2.2.1,((p.ofNat (p.len x.2.2.1)),((0:Int),()))))))))))) fun c=>let B:=c.2.2.2.2.2.2.1;
 opt.bnd (V57v) _ (v4x p (c.2.2.2.2.1,((10:Int),()))) fun d=>let A:=p.app (p.cut c.1 c.2.2.2.2.2.1 B) (p.cut [[(D.str d.1)]] 0 1);
 nD (p.and (p.leN (p.add 0 1) (p.len [[(D.str d.1)]])) (p.and (p.leN (p.add c.2.2.2.2.2.1 B) (p.len c.1)) (p.and (p.leN 1 1) (p.leN (p.add B 1) 1000000))))<|
 nD (p.and (p.leN (p.add 0 (p.add B 1)) (p.len A)) (p.and true true))<|
 opt.bnd (V57v) _ (v82 p ((p.cut A 0 (p.add B 1)),((eCe #[32]),()))) fun e=>
 nD (p.leN (p.add (p.slen e.1) (p.slen (eCe #[10]))) 1000000)<|
 rT ((p.scat e.1 (eCe #[10])),())
theorem ok84:CtrOk PG t3h (G84 std):=okF vE (a:=an84) (l:=la84) (gC u0p (gC u0q (gC t5g (gN))))
end Go.Am
end
section
namespace Go.Am
open D12
def sp:ByteArray:=eCe #[32]
def nl:ByteArray:=eCe #[10]
def y61 (c:Cd):List ByteArray:=z9f c.k::z43 c.n::c.t.map z43++[z43 c.a]
def z9w (c:Cd):ByteArray:=z5z (y61 c) sp++nl
def u8e (c:Cd):Prop:=y8g c.n=true∧(∀ x∈c.t,y8g x=true)∧y8g c.a=true
theorem x7v {n:Int} (h:y8g n=true):v4x std (n,(10,()))=some (z43 n,()):=by
 unfold v4x
 simp [h]
theorem w0r (l:List ByteArray):w0s (z4t l)=some l:=by
 induction l with
 |nil=>rfl
 |cons x l a=>simp only [z4t,eFs,w0s] at a⊢; rw [a]
theorem v81 {l:List ByteArray} {sep:ByteArray} (h:(z5z l sep).size≤1000000) (a:l.length≤1000000):v82 std (z4t l,(sep,()))=some (z5z l sep,()):=by
 unfold v82
 rw [w0r]
 have c:eAz (z5z l sep).size 1000000=true:=eCi h
 have b:eAz l.length 1000000=true:=eCi a
 simp [c,b]
theorem y6g (l:List ByteArray):(z4t l).length=l.length:=by simp [z4t]
theorem w8w (s:ByteArray):std.slen s=s.size:=rfl
theorem w8x (s t:ByteArray):std.scat s t=s++t:=rfl
theorem v1s (c:Cd) (p:u8e c) (r:c.t.length≤1000):
  z1a (w6r std) (z4t [z9f c.k,z43 c.n],(c.n,(c.k,(z0i c.t,(c.a,(0,(2,(z0i c.t,((c.t.length:Int),((0:Int),()))))))))))=
   some (z4t (z9f c.k::z43 c.n::c.t.map z43),(c.n,(c.k,(z0i c.t,(c.a,(0,(2+c.t.length,()))))))):=by
 have key:=w9z (b:=w6r std) c.t.length (fun i=>(z4t (z9f c.k::z43 c.n::(c.t.take i).map z43),(c.n,(c.k,(z0i c.t,(c.a,(0,(2+i,(z0i c.t,((c.t.length:Int),((i:Int),())))))))))))
  (z4t (z9f c.k::z43 c.n::c.t.map z43),(c.n,(c.k,(z0i c.t,(c.a,(0,(2+c.t.length,()))))))) (fun i o=>by
   obtain ⟨m,hm⟩:=z0d o
   obtain ⟨j,q⟩:=stp i (by omega)
   have g:(i:Int)<c.t.length:=by omega
   have e:(z4t (z9f c.k::z43 c.n::(c.t.take i).map z43)).length=2+i:=by rw [y6g]; simp; omega
   have d:z4t (z9f c.k::z43 c.n::(c.t.take i).map z43)++[[D.str (z43 m)]]=z4t (z9f c.k::z43 c.n::(c.t.take (i+1)).map z43):=by
    rw [eGb,hm]; simp [z4t]
   have f:=x7v (p.2.1 m (eAn hm))
   generalize z4t (z9f c.k::z43 c.n::(c.t.take i).map z43)=L at e d⊢
   have h:2+i≤999999:=by omega
   simp only [w6r,y3v,x0j,y85,x0a,y84,z7z,z4s,x05,y59,y3o,y3p,x07,y58,z3y,z88,x58,rdD,y57,z8d,w0c,x06,z0i,eAj,eBo,eCb,eCd,eFf,hm,g,q,j,z1n,z6v,f,decide_true,if_true,ge_iff_le]
   simp [e,d,h,y28,eBz]
   omega) (by
   have l:¬ (c.t.length:Int)<c.t.length:=by omega
   rw [eDf]
   simp only [w6r,z0j,z0k,l])
 exact key
theorem u6e (c:Cd) (i:u8e c) (o:c.t.length≤1000) (m:(z9w c).size≤1000000):G84 std (c.n,(c.k,(z0i c.t,(c.a,()))))=some (z9w c,()):=by
 have p:=v1s c i o
 have j:z4t (z9f c.k::z43 c.n::c.t.map z43)++[[D.str (z43 c.a)]]=z4t (y61 c):=by simp [z4t,y61]
 have e:(z4t (z9f c.k::z43 c.n::c.t.map z43)).length=2+c.t.length:=by rw [y6g]; simp; omega
 have d:(z5z (y61 c) sp).size+(eCe #[10]).size≤1000000:=by
  have:(z9w c).size=(z5z (y61 c) sp).size+nl.size:=ByteArray.size_append
  unfold nl at this
  omega
 have f:=v81 (l:=y61 c) (sep:=sp) (by omega) (by simp [y61]; omega)
 have g:(z4t (y61 c)).length=2+c.t.length+1:=by rw [y6g]; simp [y61]; omega
 unfold G84
 have q:[[D.str (z9f c.k)],[D.str (z43 c.n)]]=z4t [z9f c.k,z43 c.n]:=rfl
 simp only [y3v,x0j,y85,x0a,y84,z7z,z4s,x05,y59,y3o,y3p,x07,y58,x06,eCb,v4u,x7v i.1,x7v i.2.2,z0w,q,p]
 generalize z4t (z9f c.k::z43 c.n::c.t.map z43)=L at e j
 have h:2+c.t.length≤999999:=by omega
 have b:v82 std (z4t (y61 c),(eCe #[32],()))=some (z5z (y61 c) sp,()):=f
 simp [e,j,h,g,y28,eBz,b,w8w,w8x,d]
 exact ⟨by simp [z4t],rfl⟩
end Go.Am
end
section
namespace Go.Am
open Go Go.RowKit Go.Proofs D12
theorem y2w {T e:TypeId} {B b:Nat} {a:List Value} {w w':World} (h:Lib.IsBuilder T e B b a w) (l:∀ k,k<w.heap.size→w'.heap[k]?=w.heap[k]?):Lib.IsBuilder T e B b a w':=by
 have key:∀ p,Lib.BuilderAt T e B b p a w→Lib.BuilderAt T e B b p a w':=by
  rintro p ⟨n,v,j,⟨o,f⟩,c⟩
  have d:b<w.heap.size:=(eAi.1 j).1
  refine ⟨n,v,(l b d).trans j,⟨o,?_⟩,c⟩
  rcases f with f|⟨g,cap,i,s,r,m,q⟩
  ·exact .inl f
  ·have hg:g<w.heap.size:=(eAi.1 m).1
   exact .inr ⟨g,cap,i,s,r,(l g hg).trans m,q⟩
 exact h.imp (key _) (key _)
theorem y7q {P:Program} {g:FuncId} {args:List AV} {r:AV} {h':List AO} (t:z3s P g args [] r h') {vs:Array Value} {w:World} (hg:GL P (fun _=>False) w) (j:∀ ρ:Rho,z07 ρ (fun _=>False) w args vs):
  Calls P g vs w fun e w'=>∃ v,e= .returned v∧(∃ (ρ:Rho) (O:Nat→Prop),z0q ρ O w' r v)∧Below w.heap.size w w':=by
 intro cs
 let i:Rho:=⟨fun _=>none,fun _=>False⟩
 have a:z0f i []=fun _=>False:=by
  funext c
  apply propext
  refine ⟨fun h=>?_,False.elim⟩
  rcases h with h|⟨id,L,d,_⟩
  ·exact h
  ·cases d
 have p:z0b P i [] w:=⟨fun id L d=>(by cases d),fun id o L y d=>(by cases d),fun b s=>s.elim,fun id L d=>(by cases d),a▸hg⟩
 obtain ⟨ρ',v,w',fr,s1,n,m,l,x,u,f⟩:=t.run i vs w cs p (fun id hid=>absurd rfl hid) (a▸j i)
 exact ⟨.returned v,w',fr,⟨v,rfl,⟨_,_,l⟩,⟨f.os,f.tape,f.output,f.keep.size,fun k q=>f.keep.frame k q (by rw [a]; exact id)⟩⟩,s1,n,m⟩
theorem w97 {P:Program} {w w':World} (hg:GL P (fun _=>False) w) (a:Below w.heap.size w w'):GL P (fun _=>False) w':=hg.keep (z6r a)
def y7v (l:List Cd) (w:World) (v:Value):Prop:=z1m (fun _=>False) w (.list false 4 (z0a (fun _=>false) l)) v
theorem u4z {l:List Cd} {w:World} {v:Value} (hg:GL Tryz.prog (fun _=>False) w) (c:y7v l w v) (f:Few l):Calls Tryz.prog 19 #[v] w fun e w'=>e= .returned (.int .i64 (z13 l))∧Below w.heap.size w w':=by
 have h:=x5p (fl:=fun _=>false) l f
 have j:z3s Tryz.prog 19 [.d (.list false 4 (z0a (fun _=>false) l))] [] (.d (.int .i64 (z13 l))) []:=(t5h.2 (z0a (fun _=>false) l,()) (z13 l,()) h).2
 refine (y7q j hg fun ρ=>⟨rfl,fun i x a=>?_⟩).mono fun e w' ⟨u,he,⟨_,_,b⟩,g⟩=>⟨?_,g⟩
 ·match i,a with
  |0,a=>cases a; exact .d c
  |i+1,a=>simp at a
 ·cases b with|d b=>cases b; exact he
theorem u4y {c:Cd} {w:World} {t:Value} (hg:GL Tryz.prog (fun _=>False) w) (j:z1m (fun _=>False) w (.list false 1 (z0i c.t)) t) (p:u8e c) (l:c.t.length≤1000) (h:(z9w c).size≤1000000):
  Calls Tryz.prog 84 #[.agg #[.int .i64 c.n, .int .i64 c.k,t, .int .i64 c.a]] w fun e w'=>e= .returned (.string (z9w c))∧Below w.heap.size w w':=by
 have o:z3s Tryz.prog 84 [.d (.agg [.int .i64 c.n, .int .i64 c.k, .list false 1 (z0i c.t), .int .i64 c.a])] [] (.d (.str (z9w c))) []:=(ok84.2 (c.n,(c.k,(z0i c.t,(c.a,())))) (z9w c,()) (u6e c p l h)).2
 refine (y7q o hg fun ρ=>⟨rfl,fun i x f=>?_⟩).mono fun e w' ⟨u,he,⟨_,_,g⟩,m⟩=>⟨?_,m⟩
 ·match i,f with
  |0,f=>
   cases f
   refine .d (.agg _ _ rfl fun i d b=>?_)
   match i,b with
   |0,b=>cases b; exact .int _ _
   |1,b=>cases b; exact .int _ _
   |2,b=>cases b; exact j
   |3,b=>cases b; exact .int _ _
   |i+4,b=>simp at b
  |i+1,f=>simp at f
 ·cases g with|d g=>cases g; exact he
def y32 (l:List Cd):ByteArray:=l.foldl (fun s c=>s++z9w c) eFk
theorem w6m {l:List Cd} {w:World} {v:Value} (g:y7v l w v):∃ a c,v= .slice a l.length c∧l.length≤c∧
  ∀ (k:Nat) (x:Cd),l[k]?=some x→∃ b o t,a=some ⟨b,o,none⟩∧b<w.heap.size∧w.cell? ⟨b,o+k*4,none⟩=some (.int .i64 x.n)∧w.cell? ⟨b,o+k*4+1,none⟩=some (.int .i64 x.k)∧
   w.cell? ⟨b,o+k*4+2,none⟩=some t∧w.cell? ⟨b,o+k*4+3,none⟩=some (.int .i64 x.a)∧z1m (fun _=>False) w (.list false 1 (z0i x.t)) t:=by
 unfold y7v at g
 generalize he:z0a (fun _=>false) l=es at g
 have e:es.length=l.length:=by rw [←he]; simp [z0a]
 cases g with
 |lnil _ _ a c h=>
  have:l=[]:=by cases l with|nil=>rfl|cons _ _=>cases he
  subst this
  exact ⟨a,c,rfl,eBb _,fun k x h=>by simp at h⟩
 |list _ _ b o z c J C hO E K B cell L f h=>
  refine ⟨some ⟨b,o,none⟩,c,by rw [e],by omega,fun k x j=>?_⟩
  have F:k<l.length:=(eAe.1 j).1
  have d:es[k]?=some (eC (fun _=>false) x):=by rw [←he]; simp [z0a,j]
  have r:=h k _ 0 _ d (show (eC (fun _=>false) x)[0]?=some (.int .i64 x.n) from rfl)
  have q:=h k _ 1 _ d (show (eC (fun _=>false) x)[1]?=some (.int .i64 x.k) from rfl)
  have p:=h k _ 2 _ d (show (eC (fun _=>false) x)[2]?=some (.list false 1 (z0i x.t)) from rfl)
  have m:=h k _ 3 _ d (show (eC (fun _=>false) x)[3]?=some (.int .i64 x.a) from rfl)
  have i:=f (k*4+0) (by omega)
  have y:=f (k*4+1) (by omega)
  have u:=f (k*4+2) (by omega)
  have s:=f (k*4+3) (by omega)
  generalize cell (k*4+0)=I at r i
  generalize cell (k*4+1)=H at q y
  generalize cell (k*4+2)=A at p u
  generalize cell (k*4+3)=G at m s
  cases r; cases q; cases m
  exact ⟨b,o,A,rfl,y19 i,i,y,u,s,p⟩
theorem w1v {l:List Cd} {k:Nat} {x:Cd} (h:l[k]?=some x):(y32 (l.take (k+1))).data.toList=(y32 (l.take k)).data.toList++(z9w x).data.toList:=by
 have:l.take (k+1)=l.take k++[x]:=by rw [eGb,h]; rfl
 rw [this]
 simp [y32,List.foldl_append]
theorem w1w {l:List Cd} (h:∀ c∈l,(z9w c).size≤1000):(y32 l).size≤l.length*1000:=by
 have key:∀ (l:List Cd) (s:ByteArray),(∀ c∈l,(z9w c).size≤1000)→(l.foldl (fun s c=>s++z9w c) s).size≤s.size+l.length*1000:=by
  intro l
  induction l with
  |nil=>intro s _; simp
  |cons a r b=>
   intro s h
   have:=b (s++z9w a) fun c d=>h c (eCq _ d)
   have e:=h a (eBv ..)
   rw [ByteArray.size_append] at this
   simp only [eDo,eCa]
   omega
 have:=key l eFk h
 simpa [y32] using this
set_option maxHeartbeats 1000000 in
theorem v4y {l:List Cd} {w:World} {v:Value} (hg:GL Tryz.prog (fun _=>False) w) (hv:y7v l w v) (hf:Few l) (hlen:l.length≤1000000) (hI:z13 l=0→∀ c∈l,u8e c∧c.t.length≤1000∧(z9w c).size≤1000):
  Calls Tryz.prog 37 #[v] w fun e w'=>e= .returned (.tuple #[.string (if z13 l=0 then y32 l else eFk), .int .i64 (z13 l)])∧Below w.heap.size w w':=by
 have h19:=u4z hg hv hf
 by_cases hd:z13 l=0
 ·rw [hd] at h19⊢
  rw [if_pos rfl]
  obtain ⟨a,c,rfl,hcap,hcl⟩:=w6m hv
  have HI:=Any.hidJ (hI hd)
  have HV:=Any.hidJ hcl
  have HG:=Any.hidJ hg
  clear hI hcl hg hv hf
  go_enter Tryz.func37,Tryz.ntmps37
  go_wp2_with (go_at_call 19; refine h19.mono ?_)
  rintro e W1 ⟨rfl,b1⟩
  have h0:=Lib.fresh_isBuilder 118 5 W1
  have H0:Hid (Lib.IsBuilder 118 5 W1.heap.size W1.heap.size (Lib.byteCells (y32 (l.take 0)).data.toList) (W1.alloc (.cells #[.pointer none, .slice none 0 0] 118))):=Any.hidJ h0
  have B1:=Any.hidJ b1
  clear h0 h19
  go_wp2_with fail
  go_loopw [15] (fun i wr=>∃ k:Nat,k≤l.length∧i= .int .i64 k∧Hid (Lib.IsBuilder 118 5 W1.heap.size W1.heap.size (Lib.byteCells (y32 (l.take k)).data.toList) wr)∧Hid (Below W1.heap.size W1 wr)) (fun i _=>l.length - (Proofs.intOf i).toNat)
  case atStart=>exact ⟨0,eBb _,rfl,H0,Any.hidJ ((Below.refl W1.heap.size W1).alloc (eAp _) _)⟩
  case round=>
   obtain ⟨k,hk,rfl,HB,HW⟩:=hrel
   by_cases hkl:k<l.length
   ·obtain ⟨x,hx⟩:∃ x,l[k]?=some x:=⟨l[k],eAd hkl⟩
    obtain ⟨b,o,t,rfl,hb,c0,c1,c2,c3,ht⟩:=HV.out k x hx
    have kp:Below w.heap.size w wr:=B1.out.trans (HW.out.mono B1.out.size)
    have d0:=(kp.cell (p:=⟨b,o+k*4,none⟩) hb).trans c0
    have d1:=(kp.cell (p:=⟨b,o+k*4+1,none⟩) hb).trans c1
    have d2:=(kp.cell (p:=⟨b,o+k*4+2,none⟩) hb).trans c2
    have d3:=(kp.cell (p:=⟨b,o+k*4+3,none⟩) hb).trans c3
    obtain ⟨a',n',c',rfl⟩:∃ a' n' c',t= .slice a' n' c':=by
     generalize z0i x.t=q at ht
     cases ht with
     |lnil _ _ a c h=>exact ⟨_,_,_,rfl⟩
     |list=>exact ⟨_,_,_,rfl⟩
    have HT:=Any.hidJ ht
    have HK:=Any.hidJ kp
    clear c0 c1 c2 c3 ht kp
    have hxl:x∈l:=eAn hx
    have hn:Lib.byteCells (y32 (l.take (k+1))).data.toList=Lib.byteCells (y32 (l.take k)).data.toList++Lib.strCells (z9w x):=by
     rw [w1v hx,Lib.byteCells_append]; rfl
    have hl0:(Lib.byteCells (y32 (l.take k)).data.toList).length+(z9w x).size≤140737488355328:=by
     rw [Lib.byteCells_length, ←Lib.size_eq]
     have e1:=w1w (l:=l.take k) fun c hc=>(HI.out c (List.mem_of_mem_take hc)).2.2
     have e2:=(HI.out x hxl).2.2
     have e3:(l.take k).length≤k:=by simp; omega
     have e4:(l.take k).length*1000≤k*1000:=eBi _ e3
     omega
    have HN:=Any.hidJ hn
    clear hn
    go_wp2_with fail
    have kp:=HK.out.trans ((Below.refl w.heap.size wr).alloc HK.out.size (.cells #[.int .i64 x.n, .int .i64 x.k, .slice a' n' c', .int .i64 x.a] 29))
    have k2:=HW.out.trans ((Below.refl W1.heap.size wr).alloc HW.out.size (.cells #[.int .i64 x.n, .int .i64 x.k, .slice a' n' c', .int .i64 x.a] 29))
    have hb0:=y2w (w':=wr.alloc (.cells #[.int .i64 x.n, .int .i64 x.k, .slice a' n' c', .int .i64 x.a] 29)) HB.out fun j hj=>Below.heap_alloc _ _ _ hj
    have hi:=HI.out x hxl
    refine (u4y (w97 HG.out kp) (HT.out.keep (z6r kp)) hi.1 hi.2.1 (by omega)).mono ?_
    rintro e w3 ⟨rfl,b3⟩
    have hb1:=y2w hb0 fun j hj=>b3.block j hj
    have k3:=k2.trans (b3.mono k2.size)
    have HB1:=Any.hidJ hb1
    have K3:=Any.hidJ k3
    clear kp k2 hb0 hb1 k3 b3 hi
    go_wp2_with fail
    refine (Any.Builder_WriteString { x1s with } y21 W1.heap.size W1.heap.size _ (z9w x) w3 HB1.out hl0 K3.out.size).mono ?_
    rintro e w4 ⟨rfl,h4,b4⟩
    rw [←HN.out] at h4
    have H4:=Any.hidJ (Or.inr h4:Lib.IsBuilder 118 5 W1.heap.size W1.heap.size _ w4)
    have K4:=Any.hidJ (K3.out.trans b4)
    clear h4 b4
    go_wp2
    exact ⟨⟨k+1,by omega,by go_num,H4,K4⟩,by simp [Proofs.intOf]; omega⟩
   ·have hke:k=l.length:=by omega
    subst hke
    have hB':=HB.out
    rw [eDf] at hB'
    go_wp2_with fail
    refine (Any.Builder_String_any { x1s with } y21 W1.heap.size W1.heap.size _ wr hB' HW.out.size).mono ?_
    rintro e w5 ⟨rfl,hb5⟩
    have Hb5:=Any.hidJ (HW.out.trans hb5)
    clear hb5 hB'
    go_wp2
    go_ret2
    exact ⟨rfl,B1.out.trans (Hb5.out.mono B1.out.size)⟩
 ·have hb:(z13 l !=0)=true:=by simpa using hd
  rw [if_neg hd]
  go_enter Tryz.func37,Tryz.ntmps37
  go_wp2_with (go_at_call 19; refine h19.mono ?_)
  rintro e W1 ⟨rfl,b1⟩
  go_wp2_with fail
  go_ret2; exact ⟨rfl,b1⟩
def z6f:List (List D)→Option (List Cd)
 |[]=>some []
 |[.int .i64 n, .int .i64 k, .list _ 1 es, .int .i64 a]::l=>match y6q es,z6f l with
  |some t,some r=>some (⟨n,k,t,a⟩::r)
  |_,_=>none
 |_=>none
theorem y27:∀ {es:List (List D)} {l:List Cd},z6f es=some l→es.length=l.length∧∀ (i:Nat) (r r':List D),es[i]?=some r→(z0a (fun _=>false) l)[i]?=some r'→y4a r r'
 |[],l,h=>by cases h; exact ⟨rfl,fun i r r' h=>by simp at h⟩
 |q::es,l,h=>by
  unfold z6f at h
  split at h
  ·rename_i heq; cases heq
  ·rename_i n k b p a s heq
   cases heq
   split at h
   ·rename_i t r f g
    cases h
    obtain ⟨o,m⟩:=y27 g
    refine ⟨by simp [o],fun i r r' e d=>?_⟩
    match i,e,d with
    |0,e,d=>
     cases e
     cases d
     refine ⟨rfl,fun j y c=>?_⟩
     match j,c with
     |0,c=>cases c; exact ⟨_,rfl, .refl _⟩
     |1,c=>cases c; exact ⟨_,rfl, .refl _⟩
     |2,c=>cases c; exact ⟨_,rfl, .inl (.inr (.inl ⟨1,by rw [y5a f]; rfl, .inl rfl⟩))⟩
     |3,c=>cases c; exact ⟨_,rfl, .refl _⟩
     |j+4,c=>simp [eC] at c
    |i+1,e,d=>exact m i r r' (by simpa using e) (by simpa [z0a] using d)
   ·cases h
  ·cases h
theorem y60 {O:Nat→Prop} {w:World} {es g:List (List D)} {z:Nat} {v:Value} (h:z1m O w (.list false z es) v) (m:es.length=g.length) (A:∀ (i:Nat) (r r':List D),es[i]?=some r→g[i]?=some r'→y4a r r'):z1m O w (.list false z g) v:=by
 cases h with
 |lnil f z a c E=>
  have:g=[]:=eBw.1 m.symm
  subst this
  exact .lnil false z a c (by simp)
 |list full es b o z c y q hO B E p cell I F h=>
  have get:∀ (i:Nat) (r':List D),g[i]?=some r'→∃ r,es[i]?=some r∧y4a r r':=fun i r' l=>by
   have:i<g.length:=(eAe.1 l).1
   have n:i<es.length:=by omega
   exact ⟨es[i],eAd n,A i _ _ (eAd n) l⟩
  have:=z1m.list (O:=O) (w:=w) false g b o z c y (fun e=>q (eBw.1 (by rw [m,e]; rfl))) hO (by omega) (by simp) (fun i r' l=>by
   obtain ⟨r,u,t⟩:=get i r' l
   rw [t.1]; exact p i r u) cell (fun k s=>I k (by rw [m]; exact s)) (fun k s=>F k (by rw [m]; exact s)) fun i r' j d l C=>by
   obtain ⟨r,u,t⟩:=get i r' l
   obtain ⟨x,H,G⟩:=t.2 j d C
   exact (h i r j x u H).le G
  rw [m]; exact this
def u8k (l:List Cd):Bool:=
 eAz l.length 1000000&&l.all fun c=>eAz c.t.length 1000&&(!decide (z13 l=0)||(y8g c.n&&c.t.all y8g&&y8g c.a&&eAz (z9w c).size 1000))
def v08:Ctr:=⟨37,[.list 4],[],[(.ret,⟨[(0, .tuple [.str, .int .i64])],[],1⟩)]⟩
def G37 (_:Prim) (x:List (List D)×Unit):Option (ByteArray×(Int×Unit)):=
 match z6f x.1 with
 |some l=>bif u8k l then some (if z13 l=0 then y32 l else eFk,(z13 l,())) else none
 |none=>none
def F37:Prim→Tup (v08).scs→Option (STup (scss (v08).outs)):=fun p x=>G37 p x
theorem ok37:CtrOk Tryz.prog v08 (F37 std):=by
 refine ⟨enters_of Tryz.func37 rfl rfl,fun (x:List (List D)×Unit) y b=>?_⟩
 obtain ⟨es,u⟩:=x
 change G37 std (es,u)=_ at b
 unfold G37 at b
 cases o:z6f es with
 |none=>rw [o] at b; cases b
 |some l=>
  simp only [o] at b
  cases m:u8k l with
  |false=>rw [m] at b; cases b
  |true=>
   rw [m] at b
   cases b
   obtain ⟨C,B⟩:=y27 o
   unfold u8k at m
   simp only [eAf,eBm,eBh,eCy] at m
   obtain ⟨j,k⟩:=m
   have j:=eAl j
   refine ⟨eBb _,?_⟩
   show z3s _ 37 [.d (.list false 4 es)] [] (.tuple [.d (.str (if z13 l=0 then y32 l else eFk)), .d (.int .i64 (z13 l))]) []
   refine z2p fun ρ G w v n q=>?_
   obtain ⟨a,rfl,r⟩:=t3x q
   cases r with|d r=>
   have kp:z5d (z0f ρ []) (fun _=>False) w w:=⟨eAp _,fun _ _ _=>rfl,fun _ _ h=>h.elim,fun _ _ h=>h,trivial⟩
   have t:y7v l w a:=(y60 r (by rw [C]; simp [z0a]) B).keep kp
   refine (v4y (n.keep kp) t (fun c p=>eCt (eAl (k c p).1) (by omega)) j fun E c p=>?_).mono fun e F ⟨he,s⟩=>⟨_,he, .tuple _ _ rfl fun i x g=>?_,s⟩
   ·have A:=k c p
    obtain ⟨z,f⟩:=A
    rcases f with f|f
    ·simp [E] at f
    ·exact ⟨⟨f.1.1.1,f.1.1.2,f.1.2⟩,eAl z,eAl f.2⟩
   ·match i,g with
    |0,g=>cases g; exact .d (.str _)
    |1,g=>cases g; exact .d (.int _ _)
    |i+2,g=>simp at g
end Go.Am
end
section
namespace Go.Am
open D12
def ff0:List Int→Bool:=fun _=>false
abbrev eC0 (c:Cd):List D:=[.int .i64 c.n, .int .i64 c.k, .list false 1 (z0i c.t), .int .i64 c.a]
theorem y5k {l:List Cd} {i:Nat} {c:Cd} (h:l[i]?=some c):(z0a ff0 l)[i]?=some (eC0 c):=y3q (fl:=ff0) h
theorem w5m (xs:List D):∀ (i:Nat) (x:AV),(xs.map AV.d)[i]?=some x→x2p x:=fun i x h=>by
 rw [eAj] at h
 cases a:xs[i]? with
 |none=>rw [a] at h; cases h
 |some d=>rw [a] at h; cases h; exact .d d
theorem p44 (c d:Cd) (e:c.t.length≤1000000) (b:d.t.length≤1000000):v2m PZ 44 [.d (.agg (eC0 c)), .d (.agg (eC0 d))] (.d (.bool (tch c d))):=
 (u9k.2 (c.n,c.k,z0i c.t,c.a,d.n,d.k,z0i d.t,d.a,()) _ (w7v c d e b)).2
theorem a44 (c d:Cd) (b:c.t.length≤1000000) (a:d.t.length≤1000000) (h:List AO):z3s PZ 44 [.d (.agg (eC0 c)), .d (.agg (eC0 d))] h (.d (.bool (tch c d))) h:=
 (p44 c d b a).at (w5m [.agg (eC0 c), .agg (eC0 d)]) (.d _) h
noncomputable def z5r (f:Nat) (p:List Bool) (i:Nat):Oper:=((y2d f p).toList[i]?).getD default
theorem dsZ {ops:List Oper} {nt base:Nat} {K:AS→Prop} {acc:List (List Nat)} {i:Nat} {o:Oper} {rest:List Oper} {s:AS} {dst:Option Tmp} {op:Op} (f:o.dst=dst∧o.op=op∧o.guard=none) {q:Bool} {r:List D} {ra:List AV} {res:Res}
  (e:z6m ops acc i o (z38 s.env o.op)=true) (a:(z1b std EZ.T s.env s.heap op).ok q r ra) (d:z0t std EZ.T gZ s.env s.heap (base+i) q r ra op=some res) (j:res.c=true) (g:z3i nt dst=true) (b:∀ id∈z38 s.env op,id<base)
  (h:DS PZ EZ.T ops nt base K (acc++[z38 s.env o.op]) (i+1) rest (z4p s dst res.v res.u)):DS PZ EZ.T ops nt base K acc i (o::rest) s:=by
 obtain ⟨rfl,rfl,hg⟩:=f
 exact .cons e g (.step (by rw [hg]; rfl) t1j a d j fun id hid=> .inl (b id hid)) h
theorem dsC {ops:List Oper} {nt base:Nat} {K:AS→Prop} {acc:List (List Nat)} {i:Nat} {o:Oper} {rest:List Oper} {s:AS} {dst:Option Tmp} {g:FuncId} {args:Array Operand} {ts:Array TypeId} (f:o.dst=dst∧o.op= .call ⟨.value (.func g),args,ts⟩∧o.guard=none)
  (e:z6m ops acc i o (z38 s.env o.op)=true) (c:z3g PZ g) {r:AV} (a:∀ h,z3s PZ g (z06 s.env args.toList) h r h) (j:z3i nt dst=true) (d:∀ id∈z38 s.env (.call ⟨.value (.func g),args,ts⟩),id<base)
  (h:DS PZ EZ.T ops nt base K (acc++[z38 s.env o.op]) (i+1) rest (z4p s dst r [])):DS PZ EZ.T ops nt base K acc i (o::rest) s:=by
 obtain ⟨rfl,b,hg⟩:=f
 refine .cons e j (.call (by rw [hg]; rfl) b (first:=[]) (captured:=[]) rfl c (fun h _=>?_) fun id hid=> .inl ?_) h
 ·have:=a h
  simpa using this
 ·rw [b] at hid; exact d id hid
def v5a:TI:=⟨1,24,false,[.list true 0 []], .slc 29 4 48 true [.int .i64 0, .int .i64 0, .list true 0 [], .int .i64 0],none⟩
theorem w3a:EZ.T 22=some v5a:=by kernel_rfl
def v49:TI:=⟨4,48,true,[.int .i64 0, .int .i64 0, .list true 0 [], .int .i64 0], .struct [(0,1,false),(1,1,false),(2,1,false),(3,1,false)],none⟩
theorem v2u:EZ.T 29=some v49:=by kernel_rfl
theorem w96 {env:List (Nat×AV)} {h:List AO} {new a b:Nat} {V:List (List D)} {i:Int} {g f e c:D} (k:z0z env a= .d (.list false 4 V)) (j:z0z env b= .d (.int .i64 i)):
  z0t std EZ.T gZ env h new false [g,f,e,c] [] (.indexAddr 22 (.tmp a) (.tmp b))=some ⟨std.cmp .geq i 0, .lptr [g,f,e,c] 0,[]⟩:=by
 simp only [z0t,z0m,z6t,k,j,w3a]
 rfl
theorem y2g {env:List (Nat×AV)} {h:List AO} {a b:Nat} {V:List (List D)} {i:Nat} {r:List D} (f:z0z env a= .d (.list false 4 V)) (e:z0z env b= .d (.int .i64 (i:Int))) (c:V[i]?=some r):
  (z1b std EZ.T env h (.indexAddr 22 (.tmp a) (.tmp b))).ok false r []:=by
 simp only [z1b,z0m,f,e]
 simp only [w23,x7u.ok]
 exact ⟨r,c,y4a.refl r⟩
theorem t5j {env:List (Nat×AV)} {h:List AO} {new a:Nat} {f e c b:D} (g:z0z env a= .lptr [f,e,c,b] 0):
  z0t std EZ.T gZ env h new false [] [] (.load 29 (.tmp a))=some ⟨true, .d (.agg [f,e,c,b]),[]⟩:=by
 simp only [z0t,z0m,z6t,g,v2u,v49,z93,z2z]
 rfl
theorem x7z {env:List (Nat×AV)} {h:List AO} {a b o M:Nat} {c:Option Nat} (d:z0z env a= .slice o 1 0 M c):(z1b std EZ.T env h (.indexAddr 98 (.tmp a) (.tmp b))).ok false [] []:=by
 simp only [z1b,z0m,d]
 exact trivial
def w78 (R:List (List Bool)) (a b:Nat):Bool:=(R.getD a []).getD b false
theorem x9e {R:List (List Bool)} {k:Nat} {row:List Bool} (e:R[k]?=some row) {i:Nat} (g:i<row.length) (v:Bool) (a b:Nat):w78 (R.set k (row.set i v)) a b=if a=k∧b=i then v else w78 R a b:=by
 have f:=(eAe.1 e).1
 unfold w78
 by_cases d:a=k
 ·subst d
  rw [eAr (l:=R.set a _),eCr,if_pos rfl,if_pos f,eAr (l:=R),e]
  simp only [eCd,true_and]
  by_cases c:b=i
  ·subst c
   rw [if_pos rfl,eAr,eCr,if_pos rfl,if_pos g]; rfl
  ·rw [if_neg c,eAr,eFa (eDa c),eAr]
 ·rw [if_neg (fun h=>d h.1),eAr (l:=R.set k _),eFa (eDa d),eAr (l:=R)]
theorem v5b {R:List (List Bool)} {l:List Cd} {B:Cd→Cd→Bool} (m:R.length=l.length) (i:∀ row∈R,row.length=l.length) (k:∀ a b c d,l[a]?=some c→l[b]?=some d→w78 R a b=B c d):R=z3w l B:=by
 refine List.ext_getElem (by rw [m]; simp [z3w]) fun a h n=>?_
 have g:a<l.length:=by omega
 simp only [z3w,List.getElem_map]
 refine List.ext_getElem (by rw [i _ (eDe h)]; simp) fun b e j=>?_
 have f:b<l.length:=by rw [i _ (eDe h)] at e; exact e
 rw [List.getElem_map]
 have:=k a b l[a] l[b] (eAd g) (eAd f)
 rw [←this]
 unfold w78
 rw [eAr (l:=R),eAd h,eCd,eAr,eAd e,eCd]
theorem t0d {env:List (Nat×AV)} {h:List AO} {new a:Nat} {L:List (List D)} (b:z0z env a= .d (.list false 4 L)):
  z0t std EZ.T gZ env h new false [] [] (.call ⟨.builtin .len,#[.tmp a],#[22]⟩)=some ⟨true, .d (.int .i64 (std.ofNat (std.len L))),[]⟩:=by
 show z1q std EZ.T h new false [] .len [22] [z0z env a]=_
 rw [b]
 simp only [z1q,w3a,v5a]
 rfl
theorem ocZ {ops:Array Oper} {i:Nat} {rest:List Nat} {s:AS} {Q:AS→Prop} {o:Oper} {dst:Option Tmp} {g:FuncId} {args:Array Operand} {ts:Array TypeId} (e:ops[i]?=some o∧o.dst=dst∧o.op= .call ⟨.value (.func g),args,ts⟩∧o.guard=none)
  (d:z3g PZ g) {r:AV} {h':List AO} (a:z3s PZ g (z06 s.env args.toList) s.heap r h') (b:s.heap.length≤h'.length) (f:z3i s.nt dst=true) (h:y3d PZ 0 ops rest ⟨y4g s.env dst r,h',s.nt⟩ Q):y3d PZ 0 ops (i::rest) s Q:=by
 obtain ⟨j,rfl,c,hg⟩:=e
 exact w35 j (by rw [hg]; rfl) (eBb _) c (first:=[]) (captured:=[]) rfl d (by simpa using a) b f h
theorem v0r:z3g PZ 68:=enters_auto (b:=_) rfl (by kernel_rfl)
theorem w7f {f:FuncId} {args d:List AV} {r:AV} {h':List AO} (h:z3s PZ f args [] r h') (e:∀ (ρ:Rho) (O:Nat→Prop) (w:World) (vs:Array Value),z07 ρ O w d vs→z07 ρ O w args vs):z3s PZ f d [] r h':=
 ⟨fun ρ vs w cs a b c=>h.run ρ vs w cs a b (e _ _ _ _ c)⟩
end Go.Am
end
section
namespace Go.Am
open D12
variable {ops:List Oper} {nt base:Nat} {K:AS→Prop} {acc:List (List Nat)} {i:Nat} {o:Oper} {rest:List Oper} {s:AS}
theorem dsG {dst:Option Tmp} {op:Op} {g:Option (Nat×Bool)} (f:o.dst=dst∧o.op=op∧o.guard=g) (hg:z3l ops s.env g=some true) {q:Bool} {r:List D} {ra:List AV} {res:Res}
  (e:z6m ops acc i o (z38 s.env o.op)=true) (a:(z1b std EZ.T s.env s.heap op).ok q r ra) (d:z0t std EZ.T gZ s.env s.heap (base+i) q r ra op=some res) (k:res.c=true) (j:z3i nt dst=true) (b:∀ id∈z38 s.env op,id<base)
  (h:DS PZ EZ.T ops nt base K (acc++[z38 s.env o.op]) (i+1) rest (z4p s dst res.v res.u)):DS PZ EZ.T ops nt base K acc i (o::rest) s:=by
 obtain ⟨rfl,rfl,rfl⟩:=f
 exact .cons e j (.step hg t1j a d k fun id hid=> .inl (b id hid)) h
theorem dsS {dst:Option Tmp} {g:Option (Nat×Bool)} (b:o.dst=dst∧o.guard=g) (hg:z3l ops s.env g=some false)
  (a:z6m ops acc i o (z38 s.env o.op)=true) (c:z3i nt dst=true)
  (h:DS PZ EZ.T ops nt base K (acc++[z38 s.env o.op]) (i+1) rest (z4p s dst (.tuple []) [])):DS PZ EZ.T ops nt base K acc i (o::rest) s:=by
 obtain ⟨rfl,rfl⟩:=b
 exact .cons a c (.skip hg) h
theorem dZ {dst:Nat} {op:Op} {g:Option (Nat×Bool)} {q:Bool} {r:List D} {ra:List AV} {c:Bool} {V:AV} (f:o.dst=some dst∧o.op=op∧o.guard=g) (hg:z3l ops s.env g=some true)
  (e:z6m ops acc i o (z38 s.env o.op)=true) (a:(z1b std EZ.T s.env s.heap op).ok q r ra) (d:z0t std EZ.T gZ s.env s.heap (base+i) q r ra op=some ⟨c,V,[]⟩) (k:c=true) (j:z3i nt (some dst)=true) (b:∀ id∈z38 s.env op,id<base)
  (h:DS PZ EZ.T ops nt base K (acc++[z38 s.env o.op]) (i+1) rest (z4p s (some dst) V [])):DS PZ EZ.T ops nt base K acc i (o::rest) s:=dsG f hg e a d k j b h
theorem dK (g:Option (Nat×Bool)) (dst:Nat) (h:DS PZ EZ.T ops nt base K (acc++[z38 s.env o.op]) (i+1) rest (z4p s (some dst) (.tuple []) []))
  (b:o.dst=some dst∧o.guard=g:=by exact ⟨by kernel_rfl,by kernel_rfl⟩) (hg:z3l ops s.env g=some false:=by kernel_rfl) (a:z6m ops acc i o (z38 s.env o.op)=true:=by kernel_rfl) (c:z3i nt (some dst)=true:=by rfl):DS PZ EZ.T ops nt base K acc i (o::rest) s:=dsS b hg a c h
theorem dM (g:Option (Nat×Bool)) (dst t:Nat) (V:AV) (h:DS PZ EZ.T ops nt base K (acc++[z38 s.env o.op]) (i+1) rest (z4p s (some dst) V []))
  (d:o.dst=some dst∧o.op= .move (.tmp t)∧o.guard=g:=by exact ⟨by kernel_rfl,by kernel_rfl,by kernel_rfl⟩) (hg:z3l ops s.env g=some true:=by kernel_rfl) (b:z6m ops acc i o (z38 s.env o.op)=true:=by kernel_rfl) (a:z0z s.env t=V:=by rfl) (e:z3i nt (some dst)=true:=by rfl):DS PZ EZ.T ops nt base K acc i (o::rest) s:=
 dZ (q:=false) (r:=[]) (ra:=[]) (c:=true) d hg b trivial (by rw [←a]; rfl) rfl e (by intro id hid; cases hid) h
theorem w8c (g:Option (Nat×Bool)) (dst a b id:Nat) {x N:Nat} (c:x<N) (h:DS PZ EZ.T ops nt base K (acc++[z38 s.env o.op]) (i+1) rest (z4p s (some dst) (.ptr id x 0) []))
  (k:o.dst=some dst∧o.op= .indexAddr 96 (.tmp a) (.tmp b)∧o.guard=g:=by exact ⟨by kernel_rfl,by kernel_rfl,by kernel_rfl⟩) (hg:z3l ops s.env g=some true:=by kernel_rfl) (j:z6m ops acc i o (z38 s.env o.op)=true:=by kernel_rfl) (n:z0z s.env a= .slice id 1 0 N none:=by rfl) (m:z0z s.env b= .d (.int .i64 (x:Int)):=by rfl) (l:z3i nt (some dst)=true:=by rfl) (e:(z1b std EZ.T s.env s.heap (.indexAddr 96 (.tmp a) (.tmp b))).ok false [] []:=by exact trivial) (f:∀ id∈z38 s.env (.indexAddr 96 (.tmp a) (.tmp b)),id<base:=by intro id hid; cases hid):DS PZ EZ.T ops nt base K acc i (o::rest) s:=
 dZ (q:=false) (r:=[]) (ra:=[]) k hg j e (t1i n m) (x45 c) l f h
theorem v9i (g:Option (Nat×Bool)) (dst a b id:Nat) {x N:Nat} (c:x<N) (h:DS PZ EZ.T ops nt base K (acc++[z38 s.env o.op]) (i+1) rest (z4p s (some dst) (.ptr id x 0) []))
  (k:o.dst=some dst∧o.op= .indexAddr 98 (.tmp a) (.tmp b)∧o.guard=g:=by exact ⟨by kernel_rfl,by kernel_rfl,by kernel_rfl⟩) (hg:z3l ops s.env g=some true:=by kernel_rfl) (j:z6m ops acc i o (z38 s.env o.op)=true:=by kernel_rfl) (n:z0z s.env a= .slice id 1 0 N (some N):=by rfl) (m:z0z s.env b= .d (.int .i64 (x:Int)):=by rfl) (l:z3i nt (some dst)=true:=by rfl) (e:(z1b std EZ.T s.env s.heap (.indexAddr 98 (.tmp a) (.tmp b))).ok false [] []:=by exact trivial) (f:∀ id∈z38 s.env (.indexAddr 98 (.tmp a) (.tmp b)),id<base:=by intro id hid; cases hid):DS PZ EZ.T ops nt base K acc i (o::rest) s:=
 dZ (q:=false) (r:=[]) (ra:=[]) k hg j e (v7f n m) (x45 c) l f h
theorem w8b {op:Oper} {h:List AO} {o N x id:Nat} {E:List (List AV)} {R:List (List Bool)} (g:Option (Nat×Bool)) (dst a:Nat) (hm:Mat h o E R N) (hE:E[x]?=some [AV.slice id 1 0 N (some N)]) (f:DS PZ EZ.T ops nt h.length K (acc++[z38 s.env op.op]) (i+1) rest (z4p s (some dst) (.slice id 1 0 N (some N)) []))
  (e:op.dst=some dst∧op.op= .load 98 (.tmp a)∧op.guard=g:=by exact ⟨by kernel_rfl,by kernel_rfl,by kernel_rfl⟩) (hg:z3l ops s.env g=some true:=by kernel_rfl) (d:z6m ops acc i op (z38 s.env op.op)=true:=by kernel_rfl) (b:z0z s.env a= .ptr o x 0:=by rfl) (j:s.heap=h:=by rfl) (c:z38 s.env (.load 98 (.tmp a))=[o]:=by rfl) (k:z3i nt (some dst)=true:=by rfl):DS PZ EZ.T ops nt h.length K acc i (op::rest) s:=by
 subst j
 exact dZ (q:=false) (r:=[]) (ra:=[.slice id 1 0 N (some N)]) e hg d (w8k b hm.arr hE) (ld98 b hm.arr) rfl k (by
  rw [c]
  intro id hid; cases hid with|head=>exact hm.olt|tail _ h=>cases h) f
theorem dL4 {op:Oper} {h:List AO} {x id:Nat} {row:List Bool} {b:Bool} (g:Option (Nat×Bool)) (dst a:Nat) (c:z0e h id= .row (z1z row)) (p:row[x]?=some b) (m:id<h.length) (l:DS PZ EZ.T ops nt h.length K (acc++[z38 s.env op.op]) (i+1) rest (z4p s (some dst) (.d (.bool b)) []))
  (k:op.dst=some dst∧op.op= .load 4 (.tmp a)∧op.guard=g:=by exact ⟨by kernel_rfl,by kernel_rfl,by kernel_rfl⟩) (hg:z3l ops s.env g=some true:=by kernel_rfl) (j:z6m ops acc i op (z38 s.env op.op)=true:=by kernel_rfl) (e:z0z s.env a= .ptr id x 0:=by rfl) (n:s.heap=h:=by rfl) (f:z38 s.env (.load 4 (.tmp a))=[id]:=by rfl) (o:z3i nt (some dst)=true:=by rfl):DS PZ EZ.T ops nt h.length K acc i (op::rest) s:=by
 subst n
 exact dZ (q:=false) (r:=[.bool b]) (ra:=[]) k hg j (v4z e c p) (ld4 e c) rfl o (by
  rw [f]
  intro id hid; cases hid with|head=>exact m|tail _ h=>cases h) l
theorem dP (g:Option (Nat×Bool)) (dst c:Nat) (a b:Operand) (V:AV) (h:DS PZ EZ.T ops nt base K (acc++[z38 s.env o.op]) (i+1) rest (z4p s (some dst) V []))
  (f:o.dst=some dst∧o.op= .pick (.tmp c) a b∧o.guard=g:=by exact ⟨by kernel_rfl,by kernel_rfl,by kernel_rfl⟩) (hg:z3l ops s.env g=some true:=by kernel_rfl) (e:z6m ops acc i o (z38 s.env o.op)=true:=by kernel_rfl) (d:z0t std EZ.T gZ s.env s.heap (base+i) false [] [] (.pick (.tmp c) a b)=some ⟨true,V,[]⟩:=by kernel_rfl) (j:z3i nt (some dst)=true:=by rfl):DS PZ EZ.T ops nt base K acc i (o::rest) s:=
 dZ (q:=false) (r:=[]) (ra:=[]) (c:=true) f hg e trivial d rfl j (by intro id hid; cases hid) h
theorem oM {f i:Nat} {p:List Bool} {rest:List Nat} {s:AS} {Q:AS→Prop} (dst:Nat) (op:Op) (V:AV) (h:y3d PZ 0 (y2d f p) rest (z4p s (some dst) V []) Q)
  (a:((y2d f p)[i]?.map fun o=>(o.dst,o.op,o.guard))=some (some dst,op,none):=by kernel_rfl) (b:(z1b std EZ.T s.env s.heap op).ok false [] []:=by exact trivial) (c:z0t std EZ.T gZ s.env s.heap s.heap.length false [] [] op=some ⟨true,V,[]⟩:=by rfl) (d:z3i s.nt (some dst)=true:=by rfl):y3d PZ 0 (y2d f p) (i::rest) s Q:=by
 obtain ⟨o,a⟩:=y1c a
 exact osZ a b c rfl d h
theorem z5q {env env':List (Nat×AV)} {h:List AO} {nt:Nat} (a:(env'.map fun x=>z0z env x.1)=env'.map (·.2)):z6n 0 ⟨env,h,nt⟩ ⟨env',h,nt⟩:=
 z6n.env (n:=0) (s:=⟨_,h,nt⟩) (z4j (List.map_inj_left.1 a))
def w2w:List Bool:=[false,false,true,false,true,true,true]
def w9e:List Bool:=[false,false,true]++w2w
def w2s:List Bool:=[false,false,true,true]++w9e
def u0j:List Bool:=[false,false,true]++w2s
def w2r:List Bool:=[false,false,true]++u0j
def x8j:List Bool:=[false,false,true]++w2r
def p14:List Bool:=[false,true]++x8j
def w2t:List Bool:=[false,false,true,false,true,true,true,true]
def u0i:List Bool:=[false,false,true]++w2t
def w2v:List Bool:=[false,false,true]++u0i
def u0h:List Bool:=[false,false,true]++w2v
def w2u:List Bool:=[false,false,true]++u0h
def p24:List Bool:=[false,false,true]++w2u
def w2x (L:List (List D)) (o N:Nat) (k i j:Int):List (Nat×AV):=[(0, .d (.list false 4 L)),(7, .slice o 1 0 N none),(13, .d (.int .i64 k)),(14, .d (.int .i64 i)),(15, .d (.int .i64 j))]
theorem u4v {h : List AO} {o N : Nat} {E : List (List AV)} {R : List (List Bool)} {L : List (List D)} (hm : Mat h o E R N) {k i j : Nat} (hk : k < N) (hi : i < N) (hj : j < N) {rowi rowk : List Bool} (hRi : R[i]? = some rowi) (hRk : R[k]? = some rowk) {p q r : Bool} (hp : rowi[j]? = some p) (hq : rowi[k]? = some q) (hr : rowk[j]? = some r) {Q : AX → AS → Prop}
    (hQ : ∀ h', Mat h' o E (R.set i (rowi.set j (p || (q && r)))) N → Q .normal ⟨w2x L o N k i j, h', 118⟩) :
    z5p PZ 0 (.region 24 (y2d 95 p24) true) ⟨w2x L o N k i j, h, 118⟩ (fun e s => ∃ s', z6n 0 s s' ∧ Q e s') := by
  obtain ⟨idi, hEi, hri, hrli, hnei, hli⟩ := hm.cell i rowi hRi
  obtain ⟨idk, hEk, hrk, hrlk, hnek, hlk⟩ := hm.cell k rowk hRk
  have htake : (y2d 95 p24).toList.take 30 = [z5r 95 p24 0, z5r 95 p24 1, z5r 95 p24 2, z5r 95 p24 3, z5r 95 p24 4, z5r 95 p24 5, z5r 95 p24 6, z5r 95 p24 7, z5r 95 p24 8, z5r 95 p24 9, z5r 95 p24 10, z5r 95 p24 11, z5r 95 p24 12, z5r 95 p24 13, z5r 95 p24 14, z5r 95 p24 15, z5r 95 p24 16, z5r 95 p24 17, z5r 95 p24 18, z5r 95 p24 19, z5r 95 p24 20, z5r 95 p24 21, z5r 95 p24 22, z5r 95 p24 23, z5r 95 p24 24, z5r 95 p24 25, z5r 95 p24 26, z5r 95 p24 27, z5r 95 p24 28, z5r 95 p24 29] := by kernel_rfl
  refine y26 (T := EZ.T) follows_mixed hTZ (eBb _) (by kernel_rfl) (by kernel_rfl) (m := 30) (by decide +kernel) (by kernel_rfl)
    (K := fun s1 => s1.heap = h ∧ z0z s1.env 89 = .slice idi 1 0 N (some N) ∧ z0z s1.env 90 = .d (.int .i64 (j : Int)) ∧ z0z s1.env 115 = .d (.bool (p || (q && r))) ∧ ∀ v, w2q (w2x L o N k i j) ((116, v) :: s1.env)) ?_ ?_
  · rw [htake]
    cases p with
    | true =>
      refine dM none 86 7 (.slice o 1 0 N none) ?_
      refine dM none 87 14 (.d (.int .i64 (i : Int))) ?_
      refine w8c none 88 86 87 o hi ?_
      refine w8b none 89 88 hm hEi ?_
      refine dM none 90 15 (.d (.int .i64 (j : Int))) ?_
      refine dM none 91 7 (.slice o 1 0 N none) ?_
      refine dM none 92 14 (.d (.int .i64 (i : Int))) ?_
      refine w8c none 93 91 92 o hi ?_
      refine w8b none 94 93 hm hEi ?_
      refine dM none 95 15 (.d (.int .i64 (j : Int))) ?_
      refine v9i none 96 94 95 idi hj ?_
      refine dL4 none 97 96 hri hp hli ?_
      refine dM none 98 97 (.d (.bool true)) ?_
      refine dK (some (12, false)) 99 ?_
      refine dK (some (12, false)) 100 ?_
      refine dK (some (12, false)) 101 ?_
      refine dK (some (12, false)) 102 ?_
      refine dK (some (12, false)) 103 ?_
      refine dK (some (12, false)) 104 ?_
      refine dK (some (12, false)) 105 ?_
      refine dK (some (12, false)) 106 ?_
      refine dK (some (20, true)) 107 ?_
      refine dK (some (20, true)) 108 ?_
      refine dK (some (20, true)) 109 ?_
      refine dK (some (20, true)) 110 ?_
      refine dK (some (20, true)) 111 ?_
      refine dK (some (20, true)) 112 ?_
      refine dK (some (20, true)) 113 ?_
      refine dK (some (12, false)) 114 ?_
      refine dP none 115 98 (.const (.bool true)) (.tmp 114) (.d (.bool true)) ?_
      refine .nil ⟨rfl, rfl, rfl, rfl, fun v => z4j fun x hx => ?_⟩
      simp only [w2x, eBa, eCl, or_false] at hx
      rcases hx with rfl | rfl | rfl | rfl | rfl <;> rfl
    | false =>
      cases q with
      | true =>
        refine dM none 86 7 (.slice o 1 0 N none) ?_
        refine dM none 87 14 (.d (.int .i64 (i : Int))) ?_
        refine w8c none 88 86 87 o hi ?_
        refine w8b none 89 88 hm hEi ?_
        refine dM none 90 15 (.d (.int .i64 (j : Int))) ?_
        refine dM none 91 7 (.slice o 1 0 N none) ?_
        refine dM none 92 14 (.d (.int .i64 (i : Int))) ?_
        refine w8c none 93 91 92 o hi ?_
        refine w8b none 94 93 hm hEi ?_
        refine dM none 95 15 (.d (.int .i64 (j : Int))) ?_
        refine v9i none 96 94 95 idi hj ?_
        refine dL4 none 97 96 hri hp hli ?_
        refine dM none 98 97 (.d (.bool false)) ?_
        refine dM (some (12, false)) 99 7 (.slice o 1 0 N none) ?_
        refine dM (some (12, false)) 100 14 (.d (.int .i64 (i : Int))) ?_
        refine w8c (some (12, false)) 101 99 100 o hi ?_
        refine w8b (some (12, false)) 102 101 hm hEi ?_
        refine dM (some (12, false)) 103 13 (.d (.int .i64 (k : Int))) ?_
        refine v9i (some (12, false)) 104 102 103 idi hk ?_
        refine dL4 (some (12, false)) 105 104 hri hq hli ?_
        refine dM (some (12, false)) 106 105 (.d (.bool true)) ?_
        refine dM (some (20, true)) 107 7 (.slice o 1 0 N none) ?_
        refine dM (some (20, true)) 108 13 (.d (.int .i64 (k : Int))) ?_
        refine w8c (some (20, true)) 109 107 108 o hk ?_
        refine w8b (some (20, true)) 110 109 hm hEk ?_
        refine dM (some (20, true)) 111 15 (.d (.int .i64 (j : Int))) ?_
        refine v9i (some (20, true)) 112 110 111 idk hj ?_
        refine dL4 (some (20, true)) 113 112 hrk hr hlk ?_
        refine dP (some (12, false)) 114 106 (.tmp 113) (.const (.bool false)) (.d (.bool r)) ?_
        refine dP none 115 98 (.const (.bool true)) (.tmp 114) (.d (.bool r)) ?_
        refine .nil ⟨rfl, rfl, rfl, by simp only [Bool.false_or, Bool.true_and]; rfl, fun v => z4j fun x hx => ?_⟩
        simp only [w2x, eBa, eCl, or_false] at hx
        rcases hx with rfl | rfl | rfl | rfl | rfl <;> rfl
      | false =>
        refine dM none 86 7 (.slice o 1 0 N none) ?_
        refine dM none 87 14 (.d (.int .i64 (i : Int))) ?_
        refine w8c none 88 86 87 o hi ?_
        refine w8b none 89 88 hm hEi ?_
        refine dM none 90 15 (.d (.int .i64 (j : Int))) ?_
        refine dM none 91 7 (.slice o 1 0 N none) ?_
        refine dM none 92 14 (.d (.int .i64 (i : Int))) ?_
        refine w8c none 93 91 92 o hi ?_
        refine w8b none 94 93 hm hEi ?_
        refine dM none 95 15 (.d (.int .i64 (j : Int))) ?_
        refine v9i none 96 94 95 idi hj ?_
        refine dL4 none 97 96 hri hp hli ?_
        refine dM none 98 97 (.d (.bool false)) ?_
        refine dM (some (12, false)) 99 7 (.slice o 1 0 N none) ?_
        refine dM (some (12, false)) 100 14 (.d (.int .i64 (i : Int))) ?_
        refine w8c (some (12, false)) 101 99 100 o hi ?_
        refine w8b (some (12, false)) 102 101 hm hEi ?_
        refine dM (some (12, false)) 103 13 (.d (.int .i64 (k : Int))) ?_
        refine v9i (some (12, false)) 104 102 103 idi hk ?_
        refine dL4 (some (12, false)) 105 104 hri hq hli ?_
        refine dM (some (12, false)) 106 105 (.d (.bool false)) ?_
        refine dK (some (20, true)) 107 ?_
        refine dK (some (20, true)) 108 ?_
        refine dK (some (20, true)) 109 ?_
        refine dK (some (20, true)) 110 ?_
        refine dK (some (20, true)) 111 ?_
        refine dK (some (20, true)) 112 ?_
        refine dK (some (20, true)) 113 ?_
        refine dP (some (12, false)) 114 106 (.tmp 113) (.const (.bool false)) (.d (.bool false)) ?_
        refine dP none 115 98 (.const (.bool true)) (.tmp 114) (.d (.bool false)) ?_
        refine .nil ⟨rfl, rfl, rfl, by simp only [Bool.false_or, eDn]; rfl, fun v => z4j fun x hx => ?_⟩
        simp only [w2x, eBa, eCl, or_false] at hx
        rcases hx with rfl | rfl | rfl | rfl | rfl <;> rfl
  · rintro ⟨env1, h1, nt1⟩ ⟨rfl, g89, g90, g115, hle⟩ hnt _
    have hnt : nt1 = 118 := hnt
    subst hnt
    have hrg : List.range' 30 ((y2d 95 p24).size - 30) = [30, 31] := by kernel_rfl
    rw [hrg]
    obtain ⟨w0, o0⟩ := y1c (f := 95) (p := p24) (i := 30) (dst := some 116) (op := .indexAddr 98 (.tmp 89) (.tmp 90)) (by kernel_rfl)
    obtain ⟨w1, o1⟩ := y1c (f := 95) (p := p24) (i := 31) (dst := none) (op := .store 4 (.tmp 116) (.tmp 115)) (by kernel_rfl)
    refine osZ o0 (q := false) (r := []) (ra := []) (res := ⟨std.cmp .geq (j : Int) 0 && std.cmp .lss (j : Int) (std.ofNat N), .ptr idi j 0, []⟩) (x7z g89) (v7f g89 g90) (x45 hj) rfl ?_
    refine osZ o1 (q := false) (r := [.bool p]) (ra := []) (res := ⟨true, .bot, [(idi, .row ((z1z rowi).set j [.bool (p || (q && r))]))]⟩) (w22 rfl hri hp) (st4 rfl g115 hri) rfl rfl ?_
    exact z6q ⟨⟨w2x L o N k i j, _, 118⟩, z6n.env (n := 0) (s := ⟨_, _, 118⟩) (hle _), hQ _ (hm.store hRi hEi j (p || (q && r)))⟩
theorem p43 (l:List Cd) (x:Int) (a:l.length≤1000000):v2m PZ 43 [.d (.list false 4 (z0a ff0 l)), .d (.int .i64 x)] (.d (.int .i64 (atI l x))):=
 (u7r.2 (z0a ff0 l,x,()) _ (x0p l x a)).2
theorem a43 (l:List Cd) (c:Cd) (b:l.length≤1000000) {z:Nat} (a:atI l c.n=(z:Int)) (h:List AO):z3s PZ 43 [.d (.list false 4 (z0a ff0 l)), .d (.int .i64 c.n)] h (.d (.int .i64 (z:Int))) h:=by
 have:=p43 l c.n b
 rw [a] at this
 exact this.at (w5m [.list false 4 (z0a ff0 l), .int .i64 c.n]) (.d _) h
def t45:TI:=⟨1,8,false,[.int .i64 0], .int .i64,some [.i]⟩
theorem u8m:EZ.T 2=some t45:=by kernel_rfl
theorem u2g {env:List (Nat×AV)} {h:List AO} {new a:Nat} {cs:List D} (b:z0z env a= .lptr cs 0):
  z0t std EZ.T gZ env h new false [] [] (.fieldAddr 29 (.tmp a) 0)=some ⟨true, .lptr cs 0,[]⟩:=by
 simp only [z0t,z0m,z6t,b,v2u,v49]
 rfl
theorem ld2 {env:List (Nat×AV)} {h:List AO} {new a:Nat} {x:Int} {e c b:D} (f:z0z env a= .lptr [.int .i64 x,e,c,b] 0):
  z0t std EZ.T gZ env h new false [] [] (.load 2 (.tmp a))=some ⟨true, .d (.int .i64 x),[]⟩:=by
 simp only [z0t,z0m,z6t,f,u8m,t45,z93,z2z]
 rfl
def x6u (L X:List (List D)) (o N a:Nat) (d i k:Int):List (Nat×AV):=[(0, .d (.list false 4 L)),(7, .slice o 1 0 N none),(8, .slice a 1 0 2 (some 2)),(9, .d (.int .i64 d)),(10, .d (.list false 4 X)),(11, .d (.int .i64 i)),(12, .d (.int .i64 k))]
theorem u4w {h : List AO} {o N od : Nat} {E : List (List AV)} {R : List (List Bool)} {l x : List Cd} {dd : Int} (hm : Mat h o E R N) (hl : l.length ≤ 1000000) {i k : Nat} {c d : Cd} (hc : x[i]? = some c) (hd : x[k]? = some d) {p q : Nat} (hpa : atI l d.n = (p : Int)) (hqa : atI l c.n = (q : Int)) (hp : p < N) (hq : q < N) {row : List Bool} (hrow : R[p]? = some row) {Q : AX → AS → Prop}
    (hQ : ∀ h', (∀ id, (∀ j : Nat, E[j]? ≠ some [AV.slice id 1 0 N (some N)]) → z0e h' id = z0e h id) → h'.length = h.length → Mat h' o E (R.set p (row.set q true)) N → Q .normal ⟨x6u (z0a ff0 l) (z0a ff0 x) o N od dd i k, h', 118⟩) :
    z5p PZ 0 (.region 14 (y2d 95 p14) true) ⟨x6u (z0a ff0 l) (z0a ff0 x) o N od dd i k, h, 118⟩ (fun e s => ∃ s', z6n 0 s s' ∧ Q e s') := by
  obtain ⟨idp, hE, hid, hrl, hne, hidl⟩ := hm.cell p row hrow
  have htake : (y2d 95 p14).toList.take 17 = [z5r 95 p14 0, z5r 95 p14 1, z5r 95 p14 2, z5r 95 p14 3, z5r 95 p14 4, z5r 95 p14 5, z5r 95 p14 6, z5r 95 p14 7, z5r 95 p14 8, z5r 95 p14 9, z5r 95 p14 10, z5r 95 p14 11, z5r 95 p14 12, z5r 95 p14 13, z5r 95 p14 14, z5r 95 p14 15, z5r 95 p14 16] := by kernel_rfl
  refine y26 (T := EZ.T) follows_mixed hTZ (eBb _) (by kernel_rfl) (by kernel_rfl) (m := 17) (by decide +kernel) (by kernel_rfl)
    (K := fun s1 => s1.heap = h ∧ z0z s1.env 59 = .slice idp 1 0 N (some N) ∧ z0z s1.env 66 = .d (.int .i64 (q : Int)) ∧ ∀ v, w2q (x6u (z0a ff0 l) (z0a ff0 x) o N od dd i k) ((67, v) :: s1.env)) ?_ ?_
  · rw [htake]
    refine dM none 50 7 (.slice o 1 0 N none) ?_
    refine dM none 51 0 (.d (.list false 4 (z0a ff0 l))) ?_
    refine dM none 52 10 (.d (.list false 4 (z0a ff0 x))) ?_
    refine dM none 53 12 (.d (.int .i64 (k : Int))) ?_
    refine dsZ (dst := some 54) (op := .indexAddr 22 (.tmp 52) (.tmp 53)) ⟨by kernel_rfl, by kernel_rfl, by kernel_rfl⟩ (q := false) (r := eC0 d) (ra := []) (res := ⟨std.cmp .geq (k : Int) 0, .lptr (eC0 d) 0, []⟩) (by kernel_rfl) (y2g rfl rfl (y5k hd)) (w96 rfl rfl) (by rw [z88]; exact decide_eq_true (show (k : Int) ≥ 0 by omega)) rfl (by intro id hid; cases hid) ?_
    refine dsZ (dst := some 55) (op := .fieldAddr 29 (.tmp 54) 0) ⟨by kernel_rfl, by kernel_rfl, by kernel_rfl⟩ (q := false) (r := []) (ra := []) (res := ⟨true, .lptr (eC0 d) 0, []⟩) (by kernel_rfl) trivial (u2g rfl) rfl rfl (by intro id hid; cases hid) ?_
    refine dsZ (dst := some 56) (op := .load 2 (.tmp 55)) ⟨by kernel_rfl, by kernel_rfl, by kernel_rfl⟩ (q := false) (r := []) (ra := []) (res := ⟨true, .d (.int .i64 d.n), []⟩) (by kernel_rfl) trivial (ld2 rfl) rfl rfl (by intro id hid; cases hid) ?_
    refine dsC (dst := some 57) (g := 43) (args := #[.tmp 51, .tmp 56]) (ts := #[22, 2]) ⟨by kernel_rfl, by kernel_rfl, by kernel_rfl⟩ (by kernel_rfl) x9m (r := .d (.int .i64 (p : Int))) (fun h => a43 l d hl hpa h) rfl (by intro id hid; cases hid) ?_
    refine w8c none 58 50 57 o hp ?_
    refine w8b none 59 58 hm hE ?_
    refine dM none 60 0 (.d (.list false 4 (z0a ff0 l))) ?_
    refine dM none 61 10 (.d (.list false 4 (z0a ff0 x))) ?_
    refine dM none 62 11 (.d (.int .i64 (i : Int))) ?_
    refine dsZ (dst := some 63) (op := .indexAddr 22 (.tmp 61) (.tmp 62)) ⟨by kernel_rfl, by kernel_rfl, by kernel_rfl⟩ (q := false) (r := eC0 c) (ra := []) (res := ⟨std.cmp .geq (i : Int) 0, .lptr (eC0 c) 0, []⟩) (by kernel_rfl) (y2g rfl rfl (y5k hc)) (w96 rfl rfl) (by rw [z88]; exact decide_eq_true (show (i : Int) ≥ 0 by omega)) rfl (by intro id hid; cases hid) ?_
    refine dsZ (dst := some 64) (op := .fieldAddr 29 (.tmp 63) 0) ⟨by kernel_rfl, by kernel_rfl, by kernel_rfl⟩ (q := false) (r := []) (ra := []) (res := ⟨true, .lptr (eC0 c) 0, []⟩) (by kernel_rfl) trivial (u2g rfl) rfl rfl (by intro id hid; cases hid) ?_
    refine dsZ (dst := some 65) (op := .load 2 (.tmp 64)) ⟨by kernel_rfl, by kernel_rfl, by kernel_rfl⟩ (q := false) (r := []) (ra := []) (res := ⟨true, .d (.int .i64 c.n), []⟩) (by kernel_rfl) trivial (ld2 rfl) rfl rfl (by intro id hid; cases hid) ?_
    refine dsC (dst := some 66) (g := 43) (args := #[.tmp 60, .tmp 65]) (ts := #[22, 2]) ⟨by kernel_rfl, by kernel_rfl, by kernel_rfl⟩ (by kernel_rfl) x9m (r := .d (.int .i64 (q : Int))) (fun h => a43 l c hl hqa h) rfl (by intro id hid; cases hid) ?_
    refine .nil ⟨rfl, rfl, rfl, fun v => z4j fun x hx => ?_⟩
    simp only [x6u, eBa, eCl, or_false] at hx
    rcases hx with rfl | rfl | rfl | rfl | rfl | rfl | rfl <;> rfl
  · rintro ⟨env1, h1, nt1⟩ ⟨rfl, g59, g66, hle⟩ hnt _
    have hnt : nt1 = 118 := hnt
    subst hnt
    have hrg : List.range' 17 ((y2d 95 p14).size - 17) = [17, 18] := by kernel_rfl
    rw [hrg]
    obtain ⟨w0, o0⟩ := y1c (f := 95) (p := p14) (i := 17) (dst := some 67) (op := .indexAddr 98 (.tmp 59) (.tmp 66)) (by kernel_rfl)
    obtain ⟨w1, o1⟩ := y1c (f := 95) (p := p14) (i := 18) (dst := none) (op := .store 4 (.tmp 67) (.const (.bool true))) (by kernel_rfl)
    obtain ⟨b, hb⟩ := z0d (l := row) (i := q) (by omega)
    refine osZ o0 (q := false) (r := []) (ra := []) (res := ⟨std.cmp .geq (q : Int) 0 && std.cmp .lss (q : Int) (std.ofNat N), .ptr idp q 0, []⟩) (x7z g59) (v7f g59 g66) (x45 hq) rfl ?_
    refine osZ o1 (q := false) (r := [.bool b]) (ra := []) (res := ⟨true, .bot, [(idp, .row ((z1z row).set q [.bool true]))]⟩) (w22 rfl hid hb) (st4 rfl rfl hid) rfl rfl ?_
    exact z6q ⟨⟨x6u (z0a ff0 l) (z0a ff0 x) o N od dd i k, _, 118⟩, z6n.env (n := 0) (s := ⟨_, _, 118⟩) (hle _), hQ _ (fun id hn => z0c _ _ _ _ fun e => hn p (by rw [← e]; exact hE)) (z2t _ _ _ hidl) (hm.store hrow hE q true)⟩
end Go.Am
end
section
namespace Go.Am
open D12
theorem x1y {R:List (List Bool)} {a b:Nat} {row:List Bool} (h:R[a]?=some row) {v:Bool} (c:row[b]?=some v):v=w78 R a b:=by
 unfold w78
 rw [eAr (l:=R),h,eCd,eAr,c]; rfl
structure x5o (l:List Cd) (B:Cd→Cd→Bool) (o N k i j:Nat) (h:List AO) (E:List (List AV)) (R:List (List Bool)):Prop where
 mat:Mat h o E R N
 len:R.length=N
 cells:∀ p q c d,l[p]?=some c→l[q]?=some d→w78 R p q=if p<i∨(p=i∧q<j) then via (l.getD k default) B c d else B c d
theorem w44 {l:List Cd} {B:Cd→Cd→Bool} {o N k i j:Nat} (O:l.length=N) {h h':List AO} {E:List (List AV)} {R:List (List Bool)} (t:x5o l B o N k i j h E R) (K:k<N) (M:i<N) (L:j<N) {a g:List Bool} (b:R[i]?=some a) (z:R[k]?=some g) {p q r:Bool} (H:a[j]?=some p) (G:a[k]?=some q) (F:g[j]?=some r)
  (hm:Mat h' o E (R.set i (a.set j (p||(q&&r)))) N):x5o l B o N k i (j+1) h' E (R.set i (a.set j (p||(q&&r)))):=by
 obtain ⟨ci,s⟩:=z0d (l:=l) (i:=i) (by omega)
 obtain ⟨w,n⟩:=z0d (l:=l) (i:=j) (by omega)
 obtain ⟨f,m⟩:=z0d (l:=l) (i:=k) (by omega)
 have A:l.getD k default=f:=z0p m
 have J:p=B ci w:=by
  rw [x1y b H,t.cells i j ci w s n,if_neg (by omega)]
 have eq:q=B ci f:=by
  rw [x1y b G,t.cells i k ci f s m,A]
  split
  ·unfold via; cases B ci f<;>simp
  ·rfl
 have I:r=B f w:=by
  rw [x1y z F,t.cells k j f w m n,A]
  split
  ·unfold via; cases B f f<;>cases B f w<;>rfl
  ·rfl
 obtain ⟨id,_,_,C,_⟩:=t.mat.cell i a b
 refine ⟨hm,by rw [eFz]; exact t.len,fun u v c d y x=>?_⟩
 rw [x9e b (by omega)]
 by_cases e:u=i∧v=j
 ·obtain ⟨rfl,rfl⟩:=e
  rw [s] at y; rw [n] at x
  cases y; cases x
  rw [if_pos ⟨rfl,rfl⟩,if_pos (.inr ⟨rfl,by omega⟩),J,eq,I,A]
  rfl
 ·rw [if_neg e,t.cells u v c d y x]
  have:(u<i∨(u=i∧v<j))↔(u<i∨(u=i∧v<j+1)):=by omega
  simp only [this]
theorem w45 {l:List Cd} {B:Cd→Cd→Bool} {o N k i:Nat} (g:l.length=N) {h:List AO} {E:List (List AV)} {R:List (List Bool)} (a:x5o l B o N k i N h E R):x5o l B o N k (i+1) 0 h E R:=by
 refine ⟨a.mat,a.len,fun p q c d e b=>?_⟩
 rw [a.cells p q c d e b]
 have f:=(eAe.1 b).1
 have:(p<i∨(p=i∧q<N))↔(p<i+1∨(p=i+1∧q<0)):=by omega
 simp only [this]
theorem w92 {l:List Cd} {B:Cd→Cd→Bool} {o N k:Nat} (g:l.length=N) {h:List AO} {E:List (List AV)} {R:List (List Bool)} (a:x5o l B o N k N 0 h E R):x5o l (via (l.getD k default) B) o N (k+1) 0 0 h E R:=by
 refine ⟨a.mat,a.len,fun p q c d b e=>?_⟩
 rw [a.cells p q c d b e]
 have f:=(eAe.1 b).1
 rw [if_pos (.inl (by omega)),if_neg (by omega)]
def v6b (L:List (List D)) (o N:Nat) (k i:Int):List (Nat×AV):=[(0, .d (.list false 4 L)),(7, .slice o 1 0 N none),(13, .d (.int .i64 k)),(14, .d (.int .i64 i))]
def w9j (L:List (List D)) (o N:Nat) (k:Int):List (Nat×AV):=[(0, .d (.list false 4 L)),(7, .slice o 1 0 N none),(13, .d (.int .i64 k))]
theorem sJ95:cdZ 95 w2u= .seq (cdZ 95 (false::w2u)) (.seq (.block 11 (.region 24 (y2d 95 p24) true)) (cdZ 95 ([true,true]++w2u))):=by kernel_rfl
theorem sI95:cdZ 95 w2v= .seq (cdZ 95 (false::w2v)) (.seq (.block 9 (.seq (cdZ 95 (false::u0h)) (.block 10 (.loop (cdZ 95 w2u))))) (cdZ 95 ([true,true]++w2v))):=by kernel_rfl
theorem sK95:cdZ 95 w2t= .seq (cdZ 95 (false::w2t)) (.seq (.block 7 (.seq (cdZ 95 (false::u0i)) (.block 8 (.loop (cdZ 95 w2v))))) (cdZ 95 ([true,true]++w2t))):=by kernel_rfl
theorem v4f:z05 PZ 95 (false::w2u)=some (cdZ 95 (false::w2u)):=by kernel_rfl
theorem u5d:z05 PZ 95 ([true,true]++w2u)=some (cdZ 95 ([true,true]++w2u)):=by kernel_rfl
theorem v4g:z05 PZ 95 (false::w2v)=some (cdZ 95 (false::w2v)):=by kernel_rfl
theorem u5e:z05 PZ 95 ([true,true]++w2v)=some (cdZ 95 ([true,true]++w2v)):=by kernel_rfl
theorem v4e:z05 PZ 95 (false::w2t)=some (cdZ 95 (false::w2t)):=by kernel_rfl
theorem u5c:z05 PZ 95 ([true,true]++w2t)=some (cdZ 95 ([true,true]++w2t)):=by kernel_rfl
theorem u5f:z05 PZ 95 (false::u0h)=some (cdZ 95 (false::u0h)):=by kernel_rfl
theorem u5g:z05 PZ 95 (false::u0i)=some (cdZ 95 (false::u0i)):=by kernel_rfl
theorem v3l (L:List (List D)) (v x y:AV) (j:Int) (h:List AO):y4h 95 118 (false::w2u) [(0, .d (.list false 4 L)),(7,v),(13,x),(14,y),(15, .d (.int .i64 j))] h=opt.ask _ (std.cmp .lss j (std.ofNat (std.len L)))
  (some (.normal,⟨⟨[(83, .d (.bool true)),(82, .d (.int .i64 (std.ofNat (std.len L)))),(81, .d (.list false 4 L)),(80, .d (.int .i64 j)),(0, .d (.list false 4 L)),(7,v),(13,x),(14,y),(15, .d (.int .i64 j))],h,118⟩,[]⟩))
  (some (.exit 10,⟨⟨[(83, .d (.bool false)),(82, .d (.int .i64 (std.ofNat (std.len L)))),(81, .d (.list false 4 L)),(80, .d (.int .i64 j)),(0, .d (.list false 4 L)),(7,v),(13,x),(14,y),(15, .d (.int .i64 j))],h,118⟩,[]⟩)):=by kernel_rfl
theorem u2x (w v x y:AV) (j:Int) (h:List AO):y4h 95 118 ([true,true]++w2u) [(0,w),(7,v),(13,x),(14,y),(15, .d (.int .i64 j))] h=
  some (.normal,⟨⟨[(15, .d (.int .i64 (std.ar .add .i64 j 1))),(85, .d (.int .i64 (std.ar .add .i64 j 1))),(84, .d (.int .i64 j)),(0,w),(7,v),(13,x),(14,y),(15, .d (.int .i64 j))],h,118⟩,[]⟩):=by kernel_rfl
theorem v3m (L:List (List D)) (v x:AV) (i:Int) (h:List AO):y4h 95 118 (false::w2v) [(0, .d (.list false 4 L)),(7,v),(13,x),(14, .d (.int .i64 i))] h=opt.ask _ (std.cmp .lss i (std.ofNat (std.len L)))
  (some (.normal,⟨⟨[(77, .d (.bool true)),(76, .d (.int .i64 (std.ofNat (std.len L)))),(75, .d (.list false 4 L)),(74, .d (.int .i64 i)),(0, .d (.list false 4 L)),(7,v),(13,x),(14, .d (.int .i64 i))],h,118⟩,[]⟩))
  (some (.exit 8,⟨⟨[(77, .d (.bool false)),(76, .d (.int .i64 (std.ofNat (std.len L)))),(75, .d (.list false 4 L)),(74, .d (.int .i64 i)),(0, .d (.list false 4 L)),(7,v),(13,x),(14, .d (.int .i64 i))],h,118⟩,[]⟩)):=by kernel_rfl
theorem u2y (w v x:AV) (i:Int) (h:List AO):y4h 95 118 ([true,true]++w2v) [(0,w),(7,v),(13,x),(14, .d (.int .i64 i))] h=
  some (.normal,⟨⟨[(14, .d (.int .i64 (std.ar .add .i64 i 1))),(79, .d (.int .i64 (std.ar .add .i64 i 1))),(78, .d (.int .i64 i)),(0,w),(7,v),(13,x),(14, .d (.int .i64 i))],h,118⟩,[]⟩):=by kernel_rfl
theorem v3k (L:List (List D)) (v:AV) (k:Int) (h:List AO):y4h 95 118 (false::w2t) [(0, .d (.list false 4 L)),(7,v),(13, .d (.int .i64 k))] h=opt.ask _ (std.cmp .lss k (std.ofNat (std.len L)))
  (some (.normal,⟨⟨[(71, .d (.bool true)),(70, .d (.int .i64 (std.ofNat (std.len L)))),(69, .d (.list false 4 L)),(68, .d (.int .i64 k)),(0, .d (.list false 4 L)),(7,v),(13, .d (.int .i64 k))],h,118⟩,[]⟩))
  (some (.exit 6,⟨⟨[(71, .d (.bool false)),(70, .d (.int .i64 (std.ofNat (std.len L)))),(69, .d (.list false 4 L)),(68, .d (.int .i64 k)),(0, .d (.list false 4 L)),(7,v),(13, .d (.int .i64 k))],h,118⟩,[]⟩)):=by kernel_rfl
theorem u2w (w v:AV) (k:Int) (h:List AO):y4h 95 118 ([true,true]++w2t) [(0,w),(7,v),(13, .d (.int .i64 k))] h=
  some (.normal,⟨⟨[(13, .d (.int .i64 (std.ar .add .i64 k 1))),(73, .d (.int .i64 (std.ar .add .i64 k 1))),(72, .d (.int .i64 k)),(0,w),(7,v),(13, .d (.int .i64 k))],h,118⟩,[]⟩):=by kernel_rfl
theorem u2z (w v x y:AV) (h:List AO):y4h 95 118 (false::u0h) [(0,w),(7,v),(13,x),(14,y)] h=some (.normal,⟨⟨[(15, .d (.int .i64 0)),(0,w),(7,v),(13,x),(14,y)],h,118⟩,[]⟩):=by kernel_rfl
theorem u3a (w v x:AV) (h:List AO):y4h 95 118 (false::u0i) [(0,w),(7,v),(13,x)] h=some (.normal,⟨⟨[(14, .d (.int .i64 0)),(0,w),(7,v),(13,x)],h,118⟩,[]⟩):=by kernel_rfl
theorem v6i {l:List Cd} (U:l.length≤100000) {B:Cd→Cd→Bool} {o N k i:Nat} (A:l.length=N) (K:k<N) (L:i<N) {h:List AO} {E:List (List AV)} {R:List (List Bool)} (S:x5o l B o N k i 0 h E R) {Q:AX→AS→Prop}
  (P:∀ h' T,x5o l B o N k (i+1) 0 h' E T→Q (.exit 10) ⟨v6b (z0a ff0 l) o N k i,h',118⟩):
  z5p PZ 0 (.loop (cdZ 95 w2u)) ⟨w2x (z0a ff0 l) o N k i ((0:Nat):Int),h,118⟩ Q:=by
 let ι:={ x:Nat×List AO×List (List Bool) // x.1≤N∧x5o l B o N k i x.1 x.2.1 E x.2.2 }
 let I:ι→AS:=fun g=>⟨w2x (z0a ff0 l) o N k i (g.1.1:Nat),g.1.2.1,118⟩
 refine z7e (ι:=ι) I (fun g=>N - g.1.1) (fun _ _=>rfl) ?_ ⟨(0,h,R),eBb _,S⟩
 rintro ⟨⟨j,u,F⟩,V,a⟩
 rw [sJ95]
 refine z00 ?_
 have t:std.ofNat (std.len (z0a ff0 l))=(N:Int):=by rw [z4s,z7z,z0r,A]
 by_cases f:j<N
 ·have y:std.cmp .lss ((j:Nat):Int) (std.ofNat (std.len (z0a ff0 l)))=true:=by rw [t,z3y]; exact decide_eq_true (by omega)
  refine (y1b v4f ((v3l (z0a ff0 l) (.slice o 1 0 N none) (.d (.int .i64 k)) (.d (.int .i64 i)) j u).trans (by rw [y]; rfl))).mono ?_
  rintro e s ⟨rfl,rfl⟩
  have z:=a.len
  simp only at z
  obtain ⟨b,n⟩:=z0d (l:=F) (i:=i) (by omega)
  obtain ⟨c,m⟩:=z0d (l:=F) (i:=k) (by omega)
  obtain ⟨_,_,_,O,_⟩:=a.mat.cell i b n
  obtain ⟨_,_,_,M,_⟩:=a.mat.cell k c m
  obtain ⟨p,J⟩:=z0d (l:=b) (i:=j) (by omega)
  obtain ⟨q,H⟩:=z0d (l:=b) (i:=k) (by omega)
  obtain ⟨r,G⟩:=z0d (l:=c) (i:=j) (by omega)
  refine z1d (s':=⟨w2x (z0a ff0 l) o N k i j,u,118⟩) (z5q rfl) (z00 (z1f (z1g ?_)))
  refine u4v a.mat K L f n m J H G fun C v=>?_
  refine z1g ((y1b u5d (u2x (.d (.list false 4 (z0a ff0 l))) (.slice o 1 0 N none) (.d (.int .i64 k)) (.d (.int .i64 i)) j C)).mono ?_)
  rintro e s ⟨rfl,rfl⟩
  rw [wrZ (i:=j) (by omega)]
  exact ⟨⟨w2x (z0a ff0 l) o N k i ((j+1:Nat):Int),C,118⟩,z5q rfl,⟨⟨(j+1,C,_),f,w44 A a K L f n m J H G v⟩,rfl,by show N - (j+1)<N - j; omega⟩⟩
 ·have y:std.cmp .lss ((j:Nat):Int) (std.ofNat (std.len (z0a ff0 l)))=false:=by rw [t,z3y]; exact decide_eq_false (by omega)
  have w:j=N:=by omega
  subst w
  refine z1g ((y1b v4f ((v3l (z0a ff0 l) (.slice o 1 0 j none) (.d (.int .i64 k)) (.d (.int .i64 i)) j u).trans (by rw [y]; rfl))).mono ?_)
  rintro e s ⟨rfl,rfl⟩
  exact ⟨⟨v6b (z0a ff0 l) o j k i,u,118⟩,z5q rfl,P u F (w45 A a)⟩
theorem v6j {l:List Cd} (r:l.length≤100000) {B:Cd→Cd→Bool} {o N k:Nat} (n:l.length=N) (t:k<N) {h:List AO} {E:List (List AV)} {R:List (List Bool)} (v:x5o l B o N k 0 0 h E R) {Q:AX→AS→Prop}
  (u:∀ h' z,x5o l (via (l.getD k default) B) o N (k+1) 0 0 h' E z→Q (.exit 8) ⟨w9j (z0a ff0 l) o N k,h',118⟩):
  z5p PZ 0 (.loop (cdZ 95 w2v)) ⟨v6b (z0a ff0 l) o N k ((0:Nat):Int),h,118⟩ Q:=by
 let ι:={ x:Nat×List AO×List (List Bool) // x.1≤N∧x5o l B o N k x.1 0 x.2.1 E x.2.2 }
 let I:ι→AS:=fun g=>⟨v6b (z0a ff0 l) o N k (g.1.1:Nat),g.1.2.1,118⟩
 refine z7e (ι:=ι) I (fun g=>N - g.1.1) (fun _ _=>rfl) ?_ ⟨(0,h,R),eBb _,v⟩
 rintro ⟨⟨i,a,y⟩,A,f⟩
 rw [sI95]
 refine z00 ?_
 have c:std.ofNat (std.len (z0a ff0 l))=(N:Int):=by rw [z4s,z7z,z0r,n]
 by_cases b:i<N
 ·have m:std.cmp .lss ((i:Nat):Int) (std.ofNat (std.len (z0a ff0 l)))=true:=by rw [c,z3y]; exact decide_eq_true (by omega)
  refine (y1b v4g ((v3m (z0a ff0 l) (.slice o 1 0 N none) (.d (.int .i64 k)) i a).trans (by rw [m]; rfl))).mono ?_
  rintro e s ⟨rfl,rfl⟩
  refine z1d (s':=⟨v6b (z0a ff0 l) o N k i,a,118⟩) (z5q rfl) (z00 (z1f (z00 ((y1b u5f (u2z (.d (.list false 4 (z0a ff0 l))) (.slice o 1 0 N none) (.d (.int .i64 k)) (.d (.int .i64 i)) a)).mono ?_))))
  rintro e s ⟨rfl,rfl⟩
  refine z1d (s':=⟨w2x (z0a ff0 l) o N k i ((0:Nat):Int),a,118⟩) (z5q rfl) (z1f ?_)
  refine v6i r n t b f fun q w p=>?_
  simp only [if_true]
  refine z1g ((y1b u5e (u2y (.d (.list false 4 (z0a ff0 l))) (.slice o 1 0 N none) (.d (.int .i64 k)) i q)).mono ?_)
  rintro e s ⟨rfl,rfl⟩
  rw [wrZ (i:=i) (by omega)]
  exact ⟨⟨v6b (z0a ff0 l) o N k ((i+1:Nat):Int),q,118⟩,z5q rfl,⟨⟨(i+1,q,w),b,p⟩,rfl,by show N - (i+1)<N - i; omega⟩⟩
 ·have m:std.cmp .lss ((i:Nat):Int) (std.ofNat (std.len (z0a ff0 l)))=false:=by rw [c,z3y]; exact decide_eq_false (by omega)
  have j:i=N:=by omega
  subst j
  refine z1g ((y1b v4g ((v3m (z0a ff0 l) (.slice o 1 0 i none) (.d (.int .i64 k)) i a).trans (by rw [m]; rfl))).mono ?_)
  rintro e s ⟨rfl,rfl⟩
  exact ⟨⟨w9j (z0a ff0 l) o i k,a,118⟩,z5q rfl,u a y (w92 n f)⟩
def v40 (l:List Cd) (B:Cd→Cd→Bool):Nat→Cd→Cd→Bool
 |0=>B
 |k+1=>via (l.getD k default) (v40 l B k)
theorem x2v (l:List Cd) (B:Cd→Cd→Bool):∀ k,k≤l.length→v40 l B k=(l.take k).foldl (fun B k=>via k B) B
 |0,_=>rfl
 |k+1,h=>by
  obtain ⟨c,a⟩:=z0d (l:=l) (i:=k) (by omega)
  rw [v40,x2v l B k (by omega),eGb,a,z0p a]
  simp [List.foldl_append]
theorem w8p (l:List Cd) (B:Cd→Cd→Bool):v40 l B l.length=clo B l:=by
 rw [x2v l B _ (eAp _),eDf,y7p]
theorem v6g {l:List Cd} (u:l.length≤100000) {B:Cd→Cd→Bool} {o N:Nat} (p:l.length=N) {h:List AO} {E:List (List AV)} {R:List (List Bool)} (w:x5o l B o N 0 0 0 h E R) {Q:AX→AS→Prop}
  (v:∀ h' z,x5o l (clo B l) o N N 0 0 h' E z→Q (.exit 6) ⟨w9j (z0a ff0 l) o N N,h',118⟩):
  z5p PZ 0 (.loop (cdZ 95 w2t)) ⟨w9j (z0a ff0 l) o N ((0:Nat):Int),h,118⟩ Q:=by
 let ι:={ x:Nat×List AO×List (List Bool) // x.1≤N∧x5o l (v40 l B x.1) o N x.1 0 0 x.2.1 E x.2.2 }
 let I:ι→AS:=fun g=>⟨w9j (z0a ff0 l) o N (g.1.1:Nat),g.1.2.1,118⟩
 refine z7e (ι:=ι) I (fun g=>N - g.1.1) (fun _ _=>rfl) ?_ ⟨(0,h,R),eBb _,w⟩
 rintro ⟨⟨k,b,t⟩,A,j⟩
 rw [sK95]
 refine z00 ?_
 have f:std.ofNat (std.len (z0a ff0 l))=(N:Int):=by rw [z4s,z7z,z0r,p]
 by_cases c:k<N
 ·have n:std.cmp .lss ((k:Nat):Int) (std.ofNat (std.len (z0a ff0 l)))=true:=by rw [f,z3y]; exact decide_eq_true (by omega)
  refine (y1b v4e ((v3k (z0a ff0 l) (.slice o 1 0 N none) k b).trans (by rw [n]; rfl))).mono ?_
  rintro e s ⟨rfl,rfl⟩
  refine z1d (s':=⟨w9j (z0a ff0 l) o N k,b,118⟩) (z5q rfl) (z00 (z1f (z00 ((y1b u5g (u3a (.d (.list false 4 (z0a ff0 l))) (.slice o 1 0 N none) (.d (.int .i64 k)) b)).mono ?_))))
  rintro e s ⟨rfl,rfl⟩
  refine z1d (s':=⟨v6b (z0a ff0 l) o N k ((0:Nat):Int),b,118⟩) (z5q rfl) (z1f ?_)
  refine v6j u p c j fun r y q=>?_
  simp only [if_true]
  refine z1g ((y1b u5c (u2w (.d (.list false 4 (z0a ff0 l))) (.slice o 1 0 N none) k r)).mono ?_)
  rintro e s ⟨rfl,rfl⟩
  rw [wrZ (i:=k) (by omega)]
  exact ⟨⟨w9j (z0a ff0 l) o N ((k+1:Nat):Int),r,118⟩,z5q rfl,⟨⟨(k+1,r,y),c,q⟩,rfl,by show N - (k+1)<N - k; omega⟩⟩
 ·have n:std.cmp .lss ((k:Nat):Int) (std.ofNat (std.len (z0a ff0 l)))=false:=by rw [f,z3y]; exact decide_eq_false (by omega)
  have m:k=N:=by omega
  subst m
  refine z1g ((y1b v4e ((v3k (z0a ff0 l) (.slice o 1 0 k none) k b).trans (by rw [n]; rfl))).mono ?_)
  rintro e s ⟨rfl,rfl⟩
  have a:x5o l (v40 l B k) o k k 0 0 b E t:=j
  rw [show v40 l B k=clo B l by rw [←p]; exact w8p l B] at a
  exact ⟨⟨w9j (z0a ff0 l) o k k,b,118⟩,z5q rfl,v b t a⟩
end Go.Am
end
section
namespace Go.Am
def t5k:D→Int
 | .int _ n=>n
 |_=>0
def y8e (es:List (D×D)):List Int:=es.map fun e=>t5k e.1
def v69:D→Bool
 | .int .i64 n=>(Lit.int .i64 n).wf
 |_=>false
def w4g (x:Int):List Int→Bool
 |[]=>true
 |y::l=>!(x==y)&&w4g x l
def z9o:List Int→Bool
 |[]=>true
 |x::l=>w4g x l&&z9o l
theorem x3y {x:Int}:∀ {l:List Int},w4g x l=true↔x∉l
 |[]=>by simp [w4g]
 |y::l=>by
  simp only [w4g,eAf,eCy,beq_eq_false_iff_ne,eBa,not_or,x3y (l:=l),ne_eq]
theorem y0m:∀ {l:List Int},z9o l=true↔l.Nodup
 |[]=>by simp [z9o]
 |x::l=>by simp only [z9o,eAf,x3y,y0m (l:=l),eGm]
def z9g (es:List (D×D)):Bool:=eAz es.length 1000000&&(es.all (fun e=>v69 e.1)&&z9o (y8e es))
def y8d (l:List Int):List (List D):=l.map fun n=>[.int .i64 n]
theorem w1q {d:D} (h:v69 d=true):∃ n,d= .int .i64 n∧(Lit.int .i64 n).wf=true:=by
 unfold v69 at h
 split at h
 ·exact ⟨_,rfl,h⟩
 ·cases h
section
variable {P:Program} {T:TypeId}
open Go.WideElems (Fit rd rg pl)
open Go.RowKit Go.Proofs
def v4m:Value→Option (DataW Unit×List MemPlace):=fun _=>some (.nil,[])
theorem x84 {x:Int} (hT:P.underlying T=some (.int .i64)) (a:(Lit.int .i64 x).wf=true):keyOf P T (encZ x)=some (.int .i64 x):=by
 simp [keyOf,hT,mapKey,encZ,a]
theorem w9n (hT:P.underlying T=some (.int .i64)) {ρ:Rho} {O:Nat→Prop} {w:World} {L:Loc} {es:List (D×D)} (y:z1e P ρ O w L (.map es)) (hg:z9g es=true):
  ∃ u:DataW Unit,w.ownsMap P T v4m L.blk es.length u∧Maps.size u≤es.length∧(intKeys u).Perm (y8e es):=by
 obtain ⟨f,l,B,⟨k,v⟩,A⟩:=y
 simp only [z9g,eAf,eBm] at hg
 obtain ⟨t,E,s⟩:=hg
 have t:=eAl t
 have s:=y0m.1 s
 have c:∀ (i:Nat) (e:MapEntry),f[i]?=some e→∃ n,(y8e es)[i]?=some n∧e.key=encZ n∧(Lit.int .i64 n).wf=true:=by
  intro i e he
  have o:i<es.length:=by rw [←k]; exact (eAi.1 he).1
  have m:es[i]?=some (es[i]):=eAd o
  obtain ⟨G,d,c,_⟩:=A i es[i].1 es[i].2 m
  rw [he] at d
  have d:=Option.some.inj d
  subst d
  obtain ⟨n,h,j⟩:=w1q (E es[i] (eDe o))
  rw [h] at c
  generalize z:e.key=F at c
  cases c with
  |int=>exact ⟨n,by simp [y8e,m,h,t5k],rfl,j⟩
 have g:f.toList.map (·.key)=(y8e es).map encZ:=by
  apply eCj
  intro i
  simp only [eAj,eAt]
  cases he:f[i]? with
  |none=>
   have:es.length≤i:=by rw [←k]; exact Array.getElem?_eq_none_iff.1 he
   simp [y8e,this]
  |some e=>
   obtain ⟨n,h,c,_⟩:=c i e he
   simp [h,c]
 have C:Fit P T v4m f l:=by
  refine ⟨by rw [k]; exact eCt t (by decide),⟨v.1,v.2,?_⟩,fun x m=>?_⟩
  ·rw [g]
   exact List.pairwise_map.2 (s.imp fun {a b} r e=>r (encZ_inj e))
  ·obtain ⟨i,o⟩:=eFo m
   obtain ⟨n,_,c,j⟩:=c i x (by simpa using o)
   exact ⟨(.int .i64 n, .nil),by simp [rd,c,x84 hT j,v4m]⟩
 have q:(f.toList.map (rg P T v4m)).map (fun p=>intOf p.1)=y8e es:=by
  apply eCj
  intro i
  simp only [eAj,eAt]
  cases he:f[i]? with
  |none=>
   have:es.length≤i:=by rw [←k]; exact Array.getElem?_eq_none_iff.1 he
   simp [y8e,this]
  |some e=>
   obtain ⟨n,h,c,j⟩:=c i e he
   simp [h,rg,rd,c,x84 hT j,v4m,intOf]
 refine ⟨_,⟨f,l,B,C,by omega,rfl⟩,?_,?_⟩
 ·show (List.foldr DataW.insert [] (f.toList.map (rg P T v4m))).length≤_
  rw [(Go.WideShapes.sorted_perm _).length_eq]; simp [k]
 ·show ((List.foldr DataW.insert [] (f.toList.map (rg P T v4m))).map fun p=>intOf p.1).Perm _
  rw [←q]
  exact (Go.WideShapes.sorted_perm _).map _
theorem w3s (l:List Int):(y8d l).length=l.length:=by simp [y8d]
end
end Go.Am
end
section
namespace Go.Am
section
variable {P:Program} {T:TypeId}
open Go.RowKit Go.Proofs
def CollectCall (P:Program) (T:TypeId) (g i:FuncId):Prop:=
 ∀ (d b h:Nat) (a:DataW Unit) (R:Value→Option (DataW Unit×List MemPlace)) (w:World),w.cell? ⟨d,0,none⟩=some (.map (some b))→d<w.heap.size→w.ownsMap P T R b h a→Maps.size a≤maxLen→Maps.size a*8≤140737488355328→
  Calls P g #[.func (.func i) #[] #[.pointer (some ⟨d,0,none⟩)]] w fun e f=>∃ (v:Value) (c:List Int),e= .returned v∧c.Perm (intKeys a)∧
   f.ownsRow w.heap.size T 1 v c.length (c.map encZ)∧Below w.heap.size w f
theorem x46 (hT:P.underlying T=some (.int .i64)) {g gk:FuncId} (hc:CollectCall P T g gk) {es:List (D×D)} (hg:z9g es=true):
  z3s P g [.clo (.func gk) [] [.bptr 0 0]] [.box [.map 1], .map es] (.perm (y8d (y8e es))) [.box [.map 1], .map es]:=⟨by
 intro ρ I w cs H a7 b3
 obtain ⟨Y,X⟩:=b3
 have a1:I.size=1:=Y
 have y:I=#[I.getD 0 undef]:=by
  apply Array.ext (by simpa using a1)
  intro i s o
  match i,s,o with
  |0,s,o=>simp [eAq,eBg s]
  |i+1,s,o=>simp at o
 have hv:=X 0 _ rfl
 obtain ⟨L,hL,hq⟩:∃ L,ρ 0=some L∧I.getD 0 undef= .func (.func gk) #[] #[.pointer (some ⟨L.blk,L.base+0,none⟩)]:=by
  generalize I.getD 0 undef=q at hv
  cases hv with
  |clo _ _ _ vf V hf b1 s o=>
   have e1:vf=#[]:=Array.size_eq_zero_iff.1 (by simpa using hf)
   have a8:V.size=1:=b1
   have m:=o 0 _ rfl
   have e2:V=#[V.getD 0 undef]:=by
    apply Array.ext (by simpa using a8)
    intro i s o
    match i,s,o with
    |0,s,o=>simp [eAq,eBg s]
    |i+1,s,o=>simp at o
   generalize V.getD 0 undef=z at m e2
   cases m with
   |bptr _ _ L hL=>exact ⟨L,hL,by rw [e1,e2]⟩
 rw [hq] at y
 rw [y]
 obtain ⟨C,l,c,t,b2,F⟩:=H.obj 0 L hL
 rw [l]
 obtain ⟨v0,J,a2⟩:=F 0 (.map 1) rfl
 rw [l] at J
 obtain ⟨u,b4,rfl⟩:∃ u,ρ 1=some u∧v0= .map (some u.blk):=by
  cases a2 with
  |map _ u h=>exact ⟨u,h,rfl⟩
 have G:w.cell? ⟨L.blk,0,none⟩=some (.map (some u.blk)):=by
  unfold eFc
  simp only [b2]
  simpa using J
 obtain ⟨b7,a4⟩:=H.obj 1 u b4
 obtain ⟨D0,M,Z,B⟩:=w9n (P:=P) (T:=T) hT (show z1e P ρ _ w u (.map es) from a4) hg
 have Q:es.length≤1000000:=by
  simp only [z9g,eAf] at hg
  exact eAl hg.1
 obtain ⟨e,W,fr,⟨v,a,rfl,hp,K,m⟩,a9,a6,a5⟩:=hc L.blk u.blk es.length D0 v4m w G C M (eCt Z (eCt Q (by decide))) (by omega) cs
 have f:z5d (z0f ρ [.box [.map 1], .map es]) (z0f ρ [.box [.map 1], .map es]) w W:=⟨m.size,fun b C _=>m.block b C,fun _ _ h=>h,fun b n h=>by
  have:=z7x h
  unfold z1c; rw [m.block b this]; exact h,trivial⟩
 refine ⟨ρ,v,W,fr,a9,a6,a5,?_,H.of_keep f fun b a3=>m.block b (z7p H a3),a7,⟨m.os,m.tape,m.output,f,fun _ _=>rfl,rfl,fun b hf=>m.block b (H.fr b hf)⟩⟩
 refine .perm _ (y8d a) _ ((hp.trans B).map _) ?_
 rcases K.2 with ⟨rfl,h0⟩|⟨gb,cap,U,rfl,b9,S,R,b6,a0,A⟩
 ·have b5:a=[]:=eBw.1 h0
  subst b5
  exact .lnil _ _ _ _ (by simp)
 ·have b0:∀ i n,a[i]?=some n→U[i]?=some (encZ n):=fun i n p=>by
   have b8:i<a.length:=(eAe.1 p).1
   have:(U.toList.take (a.length*1))[i]?=(a.map encZ)[i]?:=by rw [A]
   rw [eFy (by omega),eAj,p] at this
   simpa using this
  by_cases N:a=[]
  ·subst N
   exact .lnil _ _ _ _ (by simp)
  ·have E:(y8d a).length=a.length:=w3s a
   have key:=z1m.list (O:=z0f ρ [.box [.map 1], .map es]) (w:=W) false (y8d a) gb 0 1 cap (by omega) (by simpa [y8d] using N) (fun ho=>by have:=z7p H ho; omega) (by rw [E]; exact R) (by simp) (fun i r p=>by
     unfold y8d at p
     rw [eAj] at p
     obtain ⟨x,_,rfl⟩:=eBy.1 p
     rfl) (fun k=> .int .i64 (a.getD k 0)) (fun k _=>rfl) (fun k hk=>by
     rw [eDg,E] at hk
     rw [eAy]
     have:=b0 k _ (eAd hk)
     unfold eFc
     simp only [S]
     rw [eAr,eAd hk]
     simpa [encZ] using this) (fun i r j d p F=>by
     unfold y8d at p
     rw [eAj] at p
     obtain ⟨x,hx,rfl⟩:=eBy.1 p
     match j,F with
     |0,F=>
      cases F
      rw [eDg,eBk,eAr,hx]
      exact .int _ _
     |j+1,F=>simp at F)
   rw [E] at key
   exact key⟩
end
end Go.Am
end
section
namespace Go.Proofs
open Go.RowKit Go.Maps Go.Sort Go.Shelf
def w1m:Go.Shelf.Ren:=⟨fun|11=>114|8=>63|n=>n,fun|33=>77|0=>0|24=>27|28=>87|26=>2|n=>n,fun|n=>n⟩
theorem v6s : Go.Proofs.SlLaysZI.n8 Tryz.prog w1m :=
  { mixed := by kernel_rfl,
    f8 := by first | exact ⟨Tryz.f63.name, by decide, Tryz.func63.trans (congrArg some (by kernel_rfl))⟩ | exact Tryz.func63.trans (congrArg some (by kernel_rfl)),
    f11 := by first | exact ⟨Tryz.f114.name, by decide, Tryz.func114.trans (congrArg some (by kernel_rfl))⟩ | exact Tryz.func114.trans (congrArg some (by kernel_rfl)),
    t0 := by exact Tryz.underlying0,
    a0 := by exact Tryz.isAgg0,
    z0 := by exact Tryz.sizeOf0,
    v0 := by exact Tryz.zeroValue0,
    t24 := by exact Tryz.underlying27,
    a24 := by exact Tryz.isAgg27,
    z24 := by exact Tryz.sizeOf27,
    v24 := by exact Tryz.zeroValue27,
    t26 := by exact Tryz.underlying2,
    a26 := by exact Tryz.isAgg2,
    z26 := by exact Tryz.sizeOf2,
    v26 := by exact Tryz.zeroValue2,
    t28 := by exact Tryz.underlying87,
    a28 := by exact Tryz.isAgg87,
    z28 := by exact Tryz.sizeOf87,
    v28 := by exact Tryz.zeroValue87,
    i26 := by kernel_rfl }
def w1l:Go.Shelf.Ren:=⟨fun|10=>115|n=>n,fun|3=>90|26=>2|4=>4|0=>0|23=>81|33=>77|n=>n,fun|n=>n⟩
theorem v6r : Go.Proofs.SlLaysZI.n10 Tryz.prog w1l :=
  { mixed := by kernel_rfl,
    f10 := by first | exact ⟨Tryz.f115.name, by decide, Tryz.func115.trans (congrArg some (by kernel_rfl))⟩ | exact Tryz.func115.trans (congrArg some (by kernel_rfl)),
    t0 := by exact Tryz.underlying0,
    a0 := by exact Tryz.isAgg0,
    z0 := by exact Tryz.sizeOf0,
    v0 := by exact Tryz.zeroValue0,
    t4 := by exact Tryz.underlying4,
    a4 := by exact Tryz.isAgg4,
    z4 := by exact Tryz.sizeOf4,
    v4 := by exact Tryz.zeroValue4,
    t23 := by exact Tryz.underlying81,
    a23 := by exact Tryz.isAgg81,
    z23 := by exact Tryz.sizeOf81,
    v23 := by exact Tryz.zeroValue81,
    t26 := by exact Tryz.underlying2,
    a26 := by exact Tryz.isAgg2,
    z26 := by exact Tryz.sizeOf2,
    v26 := by exact Tryz.zeroValue2,
    t33 := by exact Tryz.underlying77,
    a33 := by exact Tryz.isAgg77,
    z33 := by exact Tryz.sizeOf77,
    v33 := by exact Tryz.zeroValue77 }
theorem w6d:Go.Am.CollectCall Tryz.prog 2 63 115:=fun k b l i R w hm j g h a=>by
 refine (callsIn_wide (n:=6)).1 ?_
 have d:SeqGives Fence.wide 4 Tryz.prog 115 #[.pointer (some ⟨k,0,none⟩)] encZ (fun c=>c.Perm (intKeys i)) (Maps.size i) w:=
  AnyZI.keys_gives v6r Fence.wide _ trivial rfl (by omega) k b l i w j hm g
 have:=AnyZI.collect_in v6s Fence.wide 6 trivial trivial rfl (by omega) 115 #[.pointer (some ⟨k,0,none⟩)] trivial (enters_of Tryz.func115 (by kernel_rfl) rfl) (fun c=>c.Perm (intKeys i)) (Maps.size i) h a w d
 exact this.mono fun e o ⟨v,c,he,hS,f,_,m⟩=>⟨v,c,he,hS,f,m⟩
end Go.Proofs
namespace Go.Am
open Go Go.Proofs D12
noncomputable def v06:Ctr:=⟨63,[.clo 115 [] [.bptr 0 0]],[.box [.map 1], .map],[(.ret,⟨[(0, .prm)],[.box [.map 1], .map],1⟩)]⟩
noncomputable def G63 (_:Prim) (x:List (D×D)×Unit):Option (List (D×D)×(List (List D)×Unit)):=bif z9g x.1 then some (x.1,(y8d (y8e x.1),())) else none
noncomputable def F63:Prim→Tup (v06).scs→Option (STup (scss (v06).outs)):=fun p x=>G63 p x
theorem ok63:CtrOk Tryz.prog v06 (F63 std):=by
 refine ⟨enters_of Tryz.func63 rfl rfl,fun x y a=>?_⟩
 obtain ⟨es,u⟩:=x
 change (bif z9g es then some _ else none)=_ at a
 cases hg:z9g es with
 |false=>rw [hg] at a; cases a
 |true=>
  rw [hg] at a
  cases a
  exact ⟨by show 2≤2; omega,x46 (P:=Tryz.prog) (T:=2) Tryz.underlying2 w6d hg⟩
def u7y:List D→Int
 |[.int _ n]=>n
 |_=>0
theorem w32 {a:List (List D)} {l:List Int} (h:a.Perm (z2n l)):∃ c:List Int,a=z2n c∧c.Perm l:=by
 refine ⟨a.map u7y,?_,?_⟩
 ·have:∀ r∈a,r=[.int .i64 (u7y r)]:=fun r b=>by
   obtain ⟨n,_,rfl⟩:=eBq.1 (h.mem_iff.1 b)
   rfl
  unfold z2n
  rw [List.map_map]
  conv=>lhs; rw [←List.map_id a]
  exact List.map_congr_left fun r b=>this r b
 ·have:=h.map u7y
  unfold z2n at this
  rw [List.map_map] at this
  have e:(u7y∘fun n:Int=>[D.int IntKind.i64 n])=id:=by funext n; rfl
  rw [e,List.map_id] at this
  exact this
noncomputable def x9z:Ctr:=⟨57,[.prm],[],[(.ret,⟨[(0, .list 1)],[],1⟩)]⟩
noncomputable def t4r (_:Prim) (x:List (List D)×Unit):Option (List (List D)×Unit):=
 match y6q x.1 with
 |some l=>bif eAz l.length 1000000&&z9o l then some (z2n (srt l),()) else none
 |none=>none
noncomputable def t55:Prim→Tup (x9z).scs→Option (STup (scss (x9z).outs)):=fun p x=>t4r p x
theorem u9i:CtrOk Tryz.prog x9z (t55 std):=by
 refine ⟨u9j.1,fun x y a=>?_⟩
 obtain ⟨es,u⟩:=x
 change t4r std (es,u)=_ at a
 unfold t4r at a
 simp only at a
 split at a
 ·rename_i l C
  cases j:(eAz l.length 1000000&&z9o l) with
  |false=>rw [j] at a; cases a
  |true=>
   rw [j] at a
   cases a
   simp only [eAf] at j
   have v:=eAl j.1
   have t:=y0m.1 j.2
   have p:=y5a C
   subst p
   refine ⟨eBb _,?_⟩
   show z3s _ 57 [.perm (z2n l)] [] (.d (.list false 1 (z2n (srt l)))) []
   refine ⟨?_⟩
   intro ρ m w cs A s k
   have z:=k.2 0 _ rfl
   obtain ⟨b,g,E⟩:∃ b:List Int,b.Perm l∧z1m (z0f ρ []) w (.list false 1 (z2n b)) (m.getD 0 undef):=by
    generalize m.getD 0 undef=q at z
    cases z with
    |perm _ F _ g h=>
     obtain ⟨b,rfl,o⟩:=w32 g
     exact ⟨b,o,h⟩
   obtain ⟨r,f,B⟩:=v4t b (by rw [g.length_eq]; exact v)
   have n:r=srt l:=by rw [B.1 (g.nodup_iff.2 t),w3o g]
   subst n
   have c:z3s Tryz.prog 57 [.d (.list false 1 (z2n b))] [] (.d (.list false 1 (z2n (srt l)))) []:=(u9j.2 (z2n b,()) (z2n (srt l),()) f).2
   exact c.run ρ m w cs A s ⟨k.1,fun i x e=>by
    match i,e with
    |0,e=>cases e; exact .d E
    |i+1,e=>simp at e⟩
 ·cases a
end Go.Am
end
section
namespace Go.Am
def z99 (b:Nat):List Nat→List (Nat×AV)→List (Nat×AV)
 |_,[]=>[]
 |seen,(t,v)::l=>bif eBt t b then (bif y3x t seen then z99 b seen l else (t,v)::z99 b (t::seen) l) else z99 b seen l
theorem z9d (b:Nat):∀ (env:List (Nat×AV)) (seen:List Nat) (t:Nat),(eBt t b=false∨y3x t seen=true)→z0z (z99 b seen env) t= .bot
 |[],seen,t,h=>rfl
 |(k,v)::l,seen,t,h=>by
  simp only [z99]
  cases c:eBt k b with
  |false=>exact z9d b l seen t h
  |true=>
   cases hm:y3x k seen with
   |true=>exact z9d b l seen t h
   |false=>
    simp only [cond_true,cond_false,z0z]
    cases a:eAk k t with
    |true=>
     have:=eAg a
     subst this
     rcases h with h|h
     ·rw [c] at h; cases h
     ·rw [hm] at h; cases h
    |false=>
     refine z9d b l (k::seen) t ?_
     rcases h with h|h
     ·exact .inl h
     ·right; simp only [y3x,h,Bool.or_true]
theorem z8m (b:Nat):∀ (env:List (Nat×AV)) (seen:List Nat) (t:Nat),y3x t seen=false→z0z (z99 b seen env) t= .bot∨z0z (z99 b seen env) t=z0z env t
 |[],seen,t,h=> .inl rfl
 |(k,v)::l,seen,t,h=>by
  simp only [z99]
  cases a:eAk k t with
  |true=>
   have:=eAg a
   subst this
   cases c:eBt k b with
   |false=>exact .inl (z9d b l seen k (.inl c))
   |true=>rw [h]; simp [z0z,a]
  |false=>
   have e:z0z ((k,v)::l) t=z0z l t:=by simp only [z0z,a,cond_false]
   rw [e]
   cases c:eBt k b with
   |false=>exact z8m b l seen t h
   |true=>
    cases hm:y3x k seen with
    |true=>exact z8m b l seen t h
    |false=>
     simp only [cond_true,cond_false,z0z,a]
     refine z8m b l (k::seen) t ?_
     simp only [y3x,h,eGd]
     cases d:eAk t k with
     |false=>rfl
     |true=>have:=eAg d; subst this; rw [eGj] at a; cases a
def x2c:List (Nat×Nat)→Nat→Nat
 |[],_=>1000000
 |(g,b)::l,h=>bif eAk g h then b else x2c l h
def v2w (B:List (Nat×Nat)) (g:Nat):SS→SS
 |⟨⟨env,a,nt⟩,K⟩=>⟨⟨z99 (x2c B g) [] env,a,nt⟩,K⟩
def t49:AO→Bool
 | .row _=>true
 |_=>false
def v7l (n:Nat) (s:AS):AS:=
 ⟨y72 s.heap (fun id=>eBt id n||!t49 (z0e s.heap id)) s.env,z4f s.heap (fun id=>eBt id n||!t49 (z0e s.heap id)) 0 s.heap,s.nt⟩
theorem v7k (n:Nat) (s:AS):z6n n s (v7l n s):=
 z6n.view _ (fun id h=>by rw [eBh]; exact .inl (by simpa using h)) ⟨fun _=>rfl,fun id _ h=>by rw [z55]; exact h⟩
def u1m:List Bool→Bool
 |[]=>true
 |_=>false
def inV:List (Nat×List Bool)→Nat→List Bool→Bool
 |[],_,_=>false
 |(a,q)::l,g,pos=>(eAk a g&&(u1m q||y8i q pos))||inV l g pos
def u0k (A:Alg) (p:Prim) (Γ:List CF) (B:List (Nat×Nat)) (V:List (Nat×List Bool)):Orc A:=
 ⟨fun β _ _ _ _ g args a=>w17 A p Γ β g args a,fun β _ _ _ g args _=>x6h A p Γ β g args,fun _ _ _ _ _=>none,fun β _ _ _ b k=>b β k,
  fun _ n g pos a k=>bif inV V g pos then k (v2w B g ⟨v7l n a.s,a.K⟩) else k (v2w B g a)⟩
theorem x6m {P:Program} {Γ:List CF} (hG:GamOk P Γ) (B:List (Nat×Nat)) (V:List (Nat×List Bool)):y4b P (u0k opt std Γ B V) where
 call:=(x6n (a:=⟨Γ,[],[]⟩) hG).call
 pure:=(x6n (a:=⟨Γ,[],[]⟩) hG).pure
 loop:=fun _ _ _ _ _ _ _ _ _ _ _ h=>by cases h
 join:=fun β n g pos body k b G hb h=>by
  obtain ⟨e,ss',hg,hk⟩:=hb β k b h
  exact ⟨e,ss',ss',hg,z6n.refl _ _,fun h=>h,hk⟩
 view:=fun β n g pos ss k b hn h=>by
  simp only [u0k] at h
  cases hv:inV V g pos with
  |true=>
   rw [hv] at h
   exact ⟨⟨⟨z99 (x2c B g) [] (v7l n ss.s).env,(v7l n ss.s).heap,(v7l n ss.s).nt⟩,ss.K⟩,(v7k n ss.s).trans (z6n.env (fun t=>z8m _ _ [] t rfl)),by
    show n≤(v7l n ss.s).heap.length
    unfold v7l; rw [z55]; exact hn,h⟩
  |false=>
   rw [hv] at h
   exact ⟨⟨⟨z99 (x2c B g) [] ss.s.env,ss.s.heap,ss.s.nt⟩,ss.K⟩,z6n.env (fun t=>z8m _ _ [] t rfl),hn,h⟩
end Go.Am
end
section
namespace Go.Am
open Go Go.RowKit Go.Proofs
def v4j:List (Nat×Nat):=[(2,1),(3,4),(4,11),(5,19),(6,13),(7,24),(8,19),(9,18),(10,19),(11,20),(12,13),(13,23),(14,9),(15,4),(16,23),(17,4),(18,6),(19,13),(20,6),(21,7),(22,9),(23,27),(24,12),(25,6),(26,6),(27,62),(28,10),(29,5),(30,7),(31,57),(32,12),(33,6),(34,6),(35,22),(36,9),(37,16),(38,6),(39,12),(40,9),(41,1),(42,8),(43,6),(44,7),(45,6),(46,51),(47,10),(48,74),(49,2),(50,33),(51,8),(52,7),(53,1),(54,1),(55,4),(56,5),(57,4),(58,1),(59,4),(60,6),(61,15),(62,13),(63,1),(64,2),(65,6),(66,114),(67,18),(68,5),(69,11),(70,18),(71,2),(72,5),(73,7),(74,3),(75,3),(76,6),(77,6),(78,6),(79,10),(80,4),(81,18),(82,2),(83,2),(84,20),(85,1),(86,5),(87,2),(88,46),(89,11),(90,22),(91,11),(92,4),(93,7),(94,7),(95,16),(96,4),(97,4),(98,9),(99,4),(100,4),(101,9),(102,3),(103,3),(104,9),(105,9),(106,2),(107,3),(108,3),(109,6),(110,51),(111,6),(112,6),(113,2),(114,8),(115,6),(116,9),(117,1),(118,14),(119,1),(120,2),(121,66),(122,4),(123,1),(124,8),(125,2),(126,2),(127,9),(128,5),(129,8),(130,2),(131,12),(132,7),(133,9),(134,19),(135,1),(136,8),(137,12),(138,1),(139,14),(140,2),(141,2),(143,10),(144,2),(145,14),(146,12),(147,2),(148,17),(149,12),(150,8),(151,11),(152,11),(153,50),(154,8),(155,11),(156,2),(157,11),(158,12),(159,3),(160,3),(161,1),(162,4),(163,17),(164,19),(165,5),(166,2),(168,1),(169,11),(170,10),(171,7),(172,2),(173,2),(174,102),(175,2),(176,2),(177,3),(178,3),(179,10),(180,1),(181,1),(182,3),(183,5),(184,1),(185,1),(186,1),(187,1),(188,1),(191,9),(192,5),(193,1),(195,1),(196,6),(197,4),(198,1),(199,1),(200,4),(201,1),(202,1),(203,13),(204,1),(234,1)]
noncomputable def u7w:List CF:=[⟨y93,u8i⟩,⟨v06,F63⟩,⟨x9z,t55⟩,⟨x43,t4x⟩,⟨x42,t4w⟩,⟨x93,t6a⟩,⟨x92,t58⟩,⟨v04,F87⟩,⟨x91,t56⟩,⟨v08,F37⟩]
theorem w5i:GamOk Tryz.prog u7w:=by
 intro cf h
 simp only [u7w,eBa,eCl,or_false] at h
 rcases h with rfl|rfl|rfl|rfl|rfl|rfl|rfl|rfl|rfl|rfl
 ·exact v5u
 ·exact ok63
 ·exact u9i
 ·exact u0q
 ·exact u0p
 ·exact u9p
 ·exact u9o
 ·exact ok87
 ·exact u9n
 ·exact ok37
end Go.Am
end
section
namespace Go.Am
open Go Go.RowKit Go.Proofs D12
def leD : D → D → Bool
  | .list f z es, .list false z' es' => (eAk z z' || isNilD es) && x4u es es'
  | x, y => eqD x y
where isNilD:List (List D)→Bool
 |[]=>true
 |_=>false
theorem v3a {O : Nat → Prop} {w : World} {x y : D} {v : Value} (h : leD x y = true) (hx : z1m O w x v) : z1m O w y v := by
  unfold leD at h
  split at h
  · rename_i f z es z' es'
    simp only [eAf, eBh] at h
    obtain ⟨h1, h2⟩ := h
    have h2 := z8y _ _ h2
    subst h2
    have hle : v89 (.list f z es) (.list false z' es) := by
      right; left
      refine ⟨z', rfl, ?_⟩
      rcases h1 with h1 | h1
      · exact .inl (eAg h1).symm
      · right
        unfold leD.isNilD at h1
        split at h1
        · rfl
        · cases h1
    exact hx.le0 hle
  · exact y24 _ _ h ▸ hx
def u1a:List AV→List AV→Bool
 |[],[]=>true
 | .d x::l, .d y::a=>leD x y&&u1a l a
 |_,_=>false
theorem w4t {ρ:Rho} {O:Nat→Prop} {w:World}:∀ {l a:List AV},u1a l a=true→a.length=l.length∧∀ (i:Nat) (y:AV),a[i]?=some y→∃ x,l[i]?=some x∧∀ v,z0q ρ O w x v→z0q ρ O w y v
 |[],a,h=>by
  unfold u1a at h
  split at h
  ·exact ⟨rfl,fun i y h=>by simp at h⟩
  ·next heq=>cases heq
  ·cases h
 |x::l,a,h=>by
  unfold u1a at h
  split at h
  ·rename_i heq; cases heq
  ·rename_i j k y e heq
   cases heq
   simp only [eAf] at h
   obtain ⟨g,f⟩:=w4t (ρ:=ρ) (O:=O) (w:=w) h.2
   refine ⟨by simp [g],fun i z b=>?_⟩
   match i,b with
   |0,b=>cases b; exact ⟨_,rfl,fun v c=>by cases c with|d c=>exact .d (v3a h.1 c)⟩
   |i+1,b=>exact f i z b
  ·cases h
def leA:AV→AV→Bool
 | .d x, .d y=>leD x y
 | .tuple l, .tuple a=>u1a l a
 |_,_=>false
theorem u1b {ρ:Rho} {O:Nat→Prop} {w:World} {x y:AV} {v:Value} (h:leA x y=true) (a:z0q ρ O w x v):z0q ρ O w y v:=by
 unfold leA at h
 split at h
 ·cases a with|d a=>exact .d (v3a h a)
 ·obtain ⟨k,j⟩:=w4t (ρ:=ρ) (O:=O) (w:=w) h
  cases a with
  |tuple l b f g=>
   refine .tuple _ b (by rw [k]; exact f) fun i z c=>?_
   obtain ⟨x,a,e⟩:=j i z c
   exact e _ (g i x a)
 ·cases h
def z9v (x:Option (AV×List AO)) (t:AV):Bool:=
 match x with
 |some (r,h)=>leA (z3t h (fun id=>eBt id 0) r) t
 |none=>false
theorem x2j {P:Program} {E:Env} {O:Orc opt} (hE:EnvOk P E) (hO:y4b P O) {f:Nat} {g:FuncId} {args:List AV} {t:AV} (h:z9v (v1i E O f g args) t=true):z3s P g args [] t []:=by
 unfold z9v at h
 split at h
 ·rename_i r h' heq
  have l:=(v1h hE hO heq).view
  have:y1n h' 0=[]:=rfl
  refine ⟨fun ρ b w cs o n m=>?_⟩
  obtain ⟨ρ',v,a,fr,s1,k,j,i,e,d,c⟩:=l.run ρ b w cs o n m
  exact ⟨ρ',v,a,fr,s1,k,j,u1b h i,e,d,c⟩
 ·cases h
theorem z6g {P:Program} {g:FuncId} {args a:List AV} {h h':List AO} {r:AV} (c:z3s P g args h r h') (b:∀ (ρ:Rho) (O:Nat→Prop) (w:World) (vs:Array Value),z07 ρ O w a vs→z07 ρ O w args vs):z3s P g a h r h':=
 ⟨fun ρ vs w cs f e d=>c.run ρ vs w cs f e (b _ _ _ _ d)⟩
def ff:List Int→Bool:=fun _=>false
def z1l (es:List (List D)) (l:List Cd):Bool:=
 match z6f es with
 |some a=>x4u (z0a ff a) (z0a ff l)
 |none=>false
theorem y34 {es:List (List D)} {l:List Cd} (h:z1l es l=true) {O:Nat→Prop} {w:World} {v:Value} (b:z1m O w (.list false 4 es) v):z1m O w (.list false 4 (z0a ff l)) v:=by
 unfold z1l at h
 split at h
 ·rename_i e a
  obtain ⟨d,c⟩:=y27 a
  rw [←z8y _ _ h]
  exact y60 b (by rw [d]; simp [z0a]) c
 ·cases h
theorem v8l {es:List (List D)} {l:List Cd} (h:z1l es l=true) (rest:List AV) (ρ:Rho) (O:Nat→Prop) (w:World) (vs:Array Value) (b:z07 ρ O w (.d (.list false 4 es)::rest) vs):z07 ρ O w (.d (.list false 4 (z0a ff l))::rest) vs:=by
 refine ⟨b.1,fun i x a=>?_⟩
 match i,a with
 |0,a=>
  cases a
  cases b.2 0 _ rfl with
  |d c=>exact .d (y34 h c)
 |i+1,a=>exact b.2 (i+1) x a
theorem x5j {es b:List (List D)} {l f:List Cd} (h:z1l es l=true) (g:z1l b f=true) (ρ:Rho) (O:Nat→Prop) (w:World) (vs:Array Value) (e:z07 ρ O w [.d (.list false 4 es), .d (.list false 4 b)] vs):z07 ρ O w [.d (.list false 4 (z0a ff l)), .d (.list false 4 (z0a ff f))] vs:=by
 refine ⟨e.1,fun i x a=>?_⟩
 match i,a with
 |0,a=>
  cases a
  cases e.2 0 _ rfl with
  |d c=>exact .d (y34 h c)
 |1,a=>
  cases a
  cases e.2 1 _ rfl with
  |d c=>exact .d (y34 g c)
 |i+2,a=>simp at a
def d0:Cd:=⟨5,1,[1],100⟩
def d1:Cd:=⟨3,1,[2],40⟩
def d2:Cd:=⟨4,3,[2,1],500⟩
def d3:Cd:=⟨9,2,[1],7⟩
def z91:List Cd:=[d0,d1,d2,d3]
noncomputable def t5p:Env:=w0e [] [53,19,17,57,56,55,75,74,73,72,132,67,116,71,108,109,110,139,136,137,21,27,29,31,46,48] Tryz.prog
noncomputable def orcW:Orc opt:=u0k opt std u7w v4j [(88,[false,true,true,true,true,true,true,true]),(16,[])]
noncomputable def w83 (g:Nat) (args:List AV):Option (AV×List AO):=v1i t5p orcW 400 g args
theorem z7n {g:Nat} {args:List AV} {t:AV} (h:z9v (w83 g args) t=true):z3s Tryz.prog g args [] t []:=x2j (y7r follows_mixed) (x6m w5i _ _) h
def cdA (l:List Cd):AV:= .d (.list false 4 (z0a ff l))
end Go.Am
end
