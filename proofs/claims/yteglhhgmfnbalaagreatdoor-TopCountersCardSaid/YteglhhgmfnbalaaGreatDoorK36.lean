/- A part of an abstract machine, its walks, their tie. -/
import Derived.Test.YteglhhgmfnbalaaGreatDoorK23
set_option linter.all false
section
set_option maxHeartbeats 64000000
set_option maxRecDepth 100000
namespace Go.Eng
open List
def sqN {α:Type}(x:Nat)(f:Nat->α):α:=Nat.casesOn (motive:=λ_=>α) x (f 0) (λn=>f (Nat.succ n))
theorem zMk {α:Type}{x:Nat}{f:Nat->α}:sqN x f=f x:=by cases x<;>rfl
def jS6 {α:Type}(a b c d e f g h kw:Nat)(k:Nat->Nat->Nat->Nat->Nat->Nat->Nat->Nat->α):α:=
 sqN (Nat.mul e 4294967297) λy=>
 sqN (Nat.mul a 4294967297) λz=>
 sqN (Nat.add (Nat.add h kw) (Nat.add (Nat.mod (Nat.xor (Nat.xor (Nat.shiftRight y 6) (Nat.shiftRight y 11)) (Nat.shiftRight y 25)) 4294967296) (Nat.xor g (Nat.land e (Nat.xor f g))))) λt1=>
 sqN (Nat.mod (Nat.add d t1) 4294967296) λe2=>
 sqN (Nat.mod (Nat.add t1 (Nat.add (Nat.mod (Nat.xor (Nat.xor (Nat.shiftRight z 2) (Nat.shiftRight z 13)) (Nat.shiftRight z 22)) 4294967296) (Nat.lor (Nat.land a b) (Nat.land c (Nat.lor a b))))) 4294967296) λa2=>
 k a2 a b c e2 e f g
def wnN {α:Type}(w0 w1 w9 w14:Nat)(k:Nat->α):α:=
 sqN (Nat.mul w1 4294967297) λy=>
 sqN (Nat.mul w14 4294967297) λz=>
 sqN (Nat.mod (Nat.add (Nat.add w0 w9) (Nat.add
  (Nat.xor (Nat.mod (Nat.xor (Nat.shiftRight y 7) (Nat.shiftRight y 18)) 4294967296) (Nat.shiftRight w1 3))
  (Nat.xor (Nat.mod (Nat.xor (Nat.shiftRight z 17) (Nat.shiftRight z 19)) 4294967296) (Nat.shiftRight w14 10)))) 4294967296) k
theorem jH7 {X n m:Nat}(hn:n+m=32)(hX:X<4294967296):(X*4294967297) >>> n%4294967296=X >>> n ||| (X <<< m)%4294967296:=by
 have h32:(4294967296:Nat)=2^n*2^m:=by rw[<-Nat.pow_add,hn]
 have hq:X/2^n<2^m:=Nat.div_lt_of_lt_mul (by rw[<-h32];exact hX);have hr:X%2^n<2^n:=Nat.mod_lt _ (Nat.two_pow_pos n);have e1:X*4294967297/2^n=X*2^m+X/2^n:=by
  rw[show(4294967297:Nat)=4294967296+1 from rfl,h32,Nat.mul_add,Nat.mul_one,Nat.mul_left_comm];exact Nat.mul_add_div (Nat.two_pow_pos n) _ _
 have e2:(X*2^m)%(2^n*2^m)=(X%2^n)*2^m:=Nat.mul_mod_mul_right (2^m) X (2^n);have h2:(X%2^n)*2^m+X/2^n<2^n*2^m:=by
  have h3:(X%2^n+1)*2^m<=2^n*2^m:=Nat.mul_le_mul_right _ hr;rw[Nat.add_mul,Nat.one_mul]at h3;omega
 rw[Nat.shiftRight_eq_div_pow,Nat.shiftRight_eq_div_pow,Nat.shiftLeft_eq,e1,h32,e2,Nat.add_mod,e2,Nat.mod_eq_of_lt (a:=X/2^n) oM,Nat.mod_eq_of_lt h2,Nat.or_comm,<-Nat.shiftLeft_eq,Nat.shiftLeft_add_eq_or_of_lt hq]
theorem qMx {x:UInt32}{n m:Nat}(hn:n+m=32)(h0:0<n)(h1:0<m):(qBc x n).toNat=(x.toNat*4294967297) >>> n%4294967296:=by
 rw[jH7 hn x.toNat_lt,qBc,UInt32.toNat_or,UInt32.toNat_shiftRight,UInt32.toNat_shiftLeft];have e1:(UInt32.ofNat n).toNat%32=n:=by rw[UInt32.toNat_ofNat'];omega
 have e2:(UInt32.ofNat (32-n)).toNat%32=m:=by rw[UInt32.toNat_ofNat'];omega
 rw[e1,e2]
theorem yC6 (e f g:UInt32):(e &&& f) ^^^ (~~~e &&& g)=g ^^^ (e &&& (f ^^^ g)):=by
 apply UInt32.eq_of_toBitVec_eq;ext i hi;simp only[UInt32.toBitVec_xor,UInt32.toBitVec_and,UInt32.toBitVec_not,BitVec.getElem_xor,BitVec.getElem_and,BitVec.getElem_not];cases e.toBitVec[i]<;>cases f.toBitVec[i]<;>cases g.toBitVec[i]<;>rfl
theorem jV9 (a b c:UInt32):(a &&& b) ^^^ (a &&& c) ^^^ (b &&& c)=(a &&& b) ||| (c &&& (a ||| b)):=by
 apply UInt32.eq_of_toBitVec_eq;ext i hi;simp only[UInt32.toBitVec_xor,UInt32.toBitVec_and,UInt32.toBitVec_or,BitVec.getElem_xor,BitVec.getElem_and,BitVec.getElem_or];cases a.toBitVec[i]<;>cases b.toBitVec[i]<;>cases c.toBitVec[i]<;>rfl
theorem zMr {a b c:Nat}:(a ^^^ b ^^^ c)%4294967296=a%4294967296 ^^^ b%4294967296 ^^^ c%4294967296:=by
 rw[show(4294967296:Nat)=2^32 from rfl,Nat.xor_mod_two_pow,Nat.xor_mod_two_pow]
theorem qVo {a b:Nat}:(a ^^^ b)%4294967296=a%4294967296 ^^^ b%4294967296:=by
 rw[show(4294967296:Nat)=2^32 from rfl,Nat.xor_mod_two_pow]
theorem yDm (x:UInt32):(qBc x 6 ^^^ qBc x 11 ^^^ qBc x 25).toNat=((x.toNat*4294967297) >>> 6 ^^^ (x.toNat*4294967297) >>> 11 ^^^ (x.toNat*4294967297) >>> 25)%4294967296:=by
 rw[zMr,UInt32.toNat_xor,UInt32.toNat_xor,qMx (m:=26) rfl (by decide) (by decide),qMx (m:=21) rfl (by decide) (by decide),qMx (m:=7) rfl (by decide) (by decide)]
theorem yDl (x:UInt32):(qBc x 2 ^^^ qBc x 13 ^^^ qBc x 22).toNat=((x.toNat*4294967297) >>> 2 ^^^ (x.toNat*4294967297) >>> 13 ^^^ (x.toNat*4294967297) >>> 22)%4294967296:=by
 rw[zMr,UInt32.toNat_xor,UInt32.toNat_xor,qMx (m:=30) rfl (by decide) (by decide),qMx (m:=19) rfl (by decide) (by decide),qMx (m:=10) rfl (by decide) (by decide)]
theorem yFi (x:UInt32):(zV0 x).toNat=((x.toNat*4294967297) >>> 7 ^^^ (x.toNat*4294967297) >>> 18)%4294967296 ^^^ x.toNat >>> 3:=by
 rw[qVo,zV0,UInt32.toNat_xor,UInt32.toNat_xor,qMx (m:=25) rfl (by decide) (by decide),qMx (m:=14) rfl (by decide) (by decide),UInt32.toNat_shiftRight];rfl
theorem yFj (x:UInt32):(zV1 x).toNat=((x.toNat*4294967297) >>> 17 ^^^ (x.toNat*4294967297) >>> 19)%4294967296 ^^^ x.toNat >>> 10:=by
 rw[qVo,zV1,UInt32.toNat_xor,UInt32.toNat_xor,qMx (m:=15) rfl (by decide) (by decide),qMx (m:=13) rfl (by decide) (by decide),UInt32.toNat_shiftRight];rfl
theorem jH5 {α:Type}(a b c d e f g h k w:UInt32)(K:Nat->Nat->Nat->Nat->Nat->Nat->Nat->Nat->α) :
  let t1:=h+(qBc e 6 ^^^ qBc e 11 ^^^ qBc e 25)+((e &&& f) ^^^ (~~~e &&& g))+k+w
  let t2:=(qBc a 2 ^^^ qBc a 13 ^^^ qBc a 22)+((a &&& b) ^^^ (a &&& c) ^^^ (b &&& c))
  jS6 a.toNat b.toNat c.toNat d.toNat e.toNat f.toNat g.toNat h.toNat (k.toNat+w.toNat) K=K (t1+t2).toNat a.toNat b.toNat c.toNat (d+t1).toNat e.toNat f.toNat g.toNat:=by
 intro t1 t2;have q1:(d+t1).toNat=(d.toNat+(h.toNat+(k.toNat+w.toNat)+((qBc e 6 ^^^ qBc e 11 ^^^ qBc e 25).toNat+(g ^^^ (e &&& (f ^^^ g))).toNat)))%4294967296:=by
  show(d+(h+(qBc e 6 ^^^ qBc e 11 ^^^ qBc e 25)+((e &&& f) ^^^ (~~~e &&& g))+k+w)).toNat=_;rw[yC6];simp only[UInt32.toNat_add];omega
 have q2:(t1+t2).toNat=(h.toNat+(k.toNat+w.toNat)+((qBc e 6 ^^^ qBc e 11 ^^^ qBc e 25).toNat+(g ^^^ (e &&& (f ^^^ g))).toNat)+((qBc a 2 ^^^ qBc a 13 ^^^ qBc a 22).toNat+((a &&& b) ||| (c &&& (a ||| b))).toNat))%4294967296:=by
  show((h+(qBc e 6 ^^^ qBc e 11 ^^^ qBc e 25)+((e &&& f) ^^^ (~~~e &&& g))+k+w)+((qBc a 2 ^^^ qBc a 13 ^^^ qBc a 22)+((a &&& b) ^^^ (a &&& c) ^^^ (b &&& c)))).toNat=_;rw[yC6,jV9];simp only[UInt32.toNat_add];omega
 rw[q1,q2,yDm,yDl];simp only[UInt32.toNat_xor,UInt32.toNat_and,UInt32.toNat_or];unfold jS6;simp only[zMk];rfl
theorem jRz {α:Type}(w0 w1 w9 w14:UInt32)(K:Nat->α):wnN w0.toNat w1.toNat w9.toNat w14.toNat K=K (zV1 w14+w9+zV0 w1+w0).toNat:=by
 have q:(zV1 w14+w9+zV0 w1+w0).toNat=(w0.toNat+w9.toNat+((zV0 w1).toNat+(zV1 w14).toNat))%4294967296:=by
  simp only[UInt32.toNat_add];omega
 rw[q,yFi,yFj];unfold wnN;simp only[zMk];rfl
abbrev K8 (α:Type):Type:=Nat->Nat->Nat->Nat->Nat->Nat->Nat->Nat->α
def wU (bs:List UInt8)(t:Nat):UInt32:=if t<16 then vG bs t else zV1 (wU bs (t-2))+wU bs (t-7)+zV0 (wU bs (t-15))+wU bs (t-16)
termination_by t
decreasing_by all_goals omega
theorem qLt {bs:List UInt8}{t:Nat}(h:t<16):wU bs t=vG bs t:=by rw[wU,if_pos h]
theorem jX4 {bs:List UInt8}{t:Nat}(h:¬ t<16):wU bs t=zV1 (wU bs (t-2))+wU bs (t-7)+zV0 (wU bs (t-15))+wU bs (t-16):=by rw[wU,if_neg h]
theorem jX3 {bs:List UInt8}{t:Nat}:wU bs (t+16)=zV1 (wU bs (t+14))+wU bs (t+9)+zV0 (wU bs (t+1))+wU bs t:=by
 rw[wU,if_neg oM];rfl
theorem zL9 {bs:List UInt8}:∀{n t:Nat},n<=64->t<n->(qA5 bs n).getD t 0=wU bs t
 |n+1,t,hn,ht=>by
  have ih:=λ(s:Nat)(hs:s<n)=>zL9 (bs:=bs) (n:=n) (t:=s) oM hs
  have hl:=qLo (bs:=bs) (t:=n);simp only[qA5];by_cases c:t=n
  .subst c;rw[getD_eq_getElem?_getD,getElem?_set_self oM];show(if t<16 then vG bs t else _)=_;by_cases c2:t<16
   .rw[if_pos c2,qLt c2]
   .rw[if_neg c2,ih (t-2) oM,ih (t-7) oM,ih (t-15) oM,ih (t-16) oM,jX4 c2]
  .rw[getD_eq_getElem?_getD,getElem?_set_ne oM,<-getD_eq_getElem?_getD,ih t oM]
def jO6 (W:Nat->UInt32):List UInt32->Nat->List UInt32->List UInt32
 |[],_,s=>s
 |k::r,t,s=>jO6 W r (t+1) (rnd k (W t) s)
theorem zTb {bs:List UInt8}{hs:List UInt32}:∀{n:Nat},n<=64->jO6 (wU bs) (qTv.drop (64-n)) (64-n) (qAk (qA5 bs 64) hs (64-n))=qAk (qA5 bs 64) hs 64
 |0,_=>rfl
 |n+1,hn=>by
  have hd:qTv.drop (64-(n+1))=qTv.getD (64-(n+1)) 0::qTv.drop (64-n):=by
   have hl:64-(n+1)<qTv.length:=by show _<64;omega
   rw[drop_eq_getElem_cons hl,getD_eq_getElem?_getD,getElem?_eq_getElem hl];simp only[Option.getD_some];rw[show 64-(n+1)+1=64-n by omega]
  have e:=zTb (bs:=bs) (hs:=hs) (n:=n) oM;rw[hd,jO6,show 64-(n+1)+1=64-n by omega];rw[show 64-n=(64-(n+1))+1 by omega,qAk,zL9 (Nat.le_refl _) oM]at e;rw[show 64-n=(64-(n+1))+1 by omega];exact e
def kN:List Nat:=[0x428a2f98,0x71374491,0xb5c0fbcf,0xe9b5dba5,0x3956c25b,0x59f111f1,0x923f82a4,0xab1c5ed5,0xd807aa98,0x12835b01,0x243185be,0x550c7dc3,0x72be5d74,0x80deb1fe,0x9bdc06a7,0xc19bf174,0xe49b69c1,0xefbe4786,0x0fc19dc6,0x240ca1cc,0x2de92c6f,0x4a7484aa,0x5cb0a9dc,0x76f988da,0x983e5152,0xa831c66d,0xb00327c8,0xbf597fc7,0xc6e00bf3,0xd5a79147,0x06ca6351,0x14292967,0x27b70a85,0x2e1b2138,0x4d2c6dfc,0x53380d13,0x650a7354,0x766a0abb,0x81c2c92e,0x92722c85,0xa2bfe8a1,0xa81a664b,0xc24b8b70,0xc76c51a3,0xd192e819,0xd6990624,0xf40e3585,0x106aa070,0x19a4c116,0x1e376c08,0x2748774c,0x34b0bcb5,0x391c0cb3,0x4ed8aa4a,0x5b9cca4f,0x682e6ff3,0x748f82ee,0x78a5636f,0x84c87814,0x8cc70208,0x90befffa,0xa4506ceb,0xbef9a3f7,0xc67178f2]
theorem jU3:qTv.map UInt32.toNat=kN:=by decide
def sqB {α:Type}(x:Nat)(f:Nat->α):α:=Bool.casesOn (motive:=λ_=>α) (Nat.beq x 0) (f x) (f x)
theorem zMj {α:Type}{x:Nat}{f:Nat->α}:sqB x f=f x:=by unfold sqB;cases Nat.beq x 0<;>rfl
def ln (j X:Nat):Nat:=X >>> (64*j)%2^64
theorem zLh {j X b:Nat}:(ln j X).testBit b=(decide (b<64)&&X.testBit (64*j+b)):=by
 unfold ln;rw[Nat.testBit_mod_two_pow,Nat.testBit_shiftRight]
theorem qWt {j X Y:Nat}:ln j (X &&& Y)=ln j X &&& ln j Y:=by
 apply Nat.eq_of_testBit_eq;intro b;simp only[zLh,Nat.testBit_and];cases decide (b<64)<;>simp
theorem zE2 {j X Y:Nat}:ln j (X ^^^ Y)=ln j X ^^^ ln j Y:=by
 apply Nat.eq_of_testBit_eq;intro b;simp only[zLh,Nat.testBit_xor];cases decide (b<64)<;>simp
theorem jGn {j X Y:Nat}:ln j (X ||| Y)=ln j X ||| ln j Y:=by
 apply Nat.eq_of_testBit_eq;intro b;simp only[zLh,Nat.testBit_or];cases decide (b<64)<;>simp
def Wd (X:Nat):Prop:=∀j,ln j X<4294967296
theorem jKw {x b:Nat}(h:x<4294967296)(hb:¬ b<32):x.testBit b=false:=Nat.testBit_lt_two_pow (Nat.lt_of_lt_of_le h (by rw[show(4294967296:Nat)=2^32 from rfl];exact Nat.pow_le_pow_right oM oM))
theorem jP2 {X Z M k1 k2 k3 j:Nat}(h1:k1<=32)(h2:k2<=32)(h3:k3<=32)(hM:ln j M<4294967296) :
  ln j ((X >>> k1 ^^^ X >>> k2 ^^^ Z >>> k3) &&& M)=(ln j X >>> k1 ^^^ ln j X >>> k2 ^^^ ln j Z >>> k3) &&& ln j M:=by
 rw[qWt];apply Nat.eq_of_testBit_eq;intro b;simp only[Nat.testBit_and];by_cases hb:b<32
 .congr 1;have d1:decide (k1+b<64)=true:=decide_eq_true oM;have d2:decide (k2+b<64)=true:=decide_eq_true oM;have d3:decide (k3+b<64)=true:=decide_eq_true oM;simp only[zLh,Nat.testBit_xor,Nat.testBit_shiftRight,d1,d2,d3,Bool.true_and,show decide (b<64)=true from decide_eq_true oM];rw[show k1+(64*j+b)=64*j+(k1+b) by omega,show k2+(64*j+b)=64*j+(k2+b) by omega,show k3+(64*j+b)=64*j+(k3+b) by omega]
 .rw[jKw hM hb,Bool.and_false,Bool.and_false]
theorem zIb {X j:Nat}:X%2^(64*(j+1))=2^(64*j)*ln j X+X%2^(64*j):=by
 unfold ln;rw[Nat.shiftRight_eq_div_pow,show 64*(j+1)=64*j+64 by omega,Nat.pow_add,Nat.mod_mul,Nat.add_comm]
theorem qFa {X Y:Nat}(h:∀j,ln j X+ln j Y<2^64)(j:Nat):ln j (X+Y)=ln j X+ln j Y:=by
 have key:∀j,X%2^(64*j)+Y%2^(64*j)<2^(64*j):=by
  intro j
  induction j with
  |zero=>simp[Nat.mod_one]
  |succ j ih=>
   have h1:2^(64*j)*(ln j X+ln j Y+1)<=2^(64*j)*2^64:=Nat.mul_le_mul_left _ (h j);rw[zIb,zIb,show 64*(j+1)=64*j+64 by omega,Nat.pow_add];rw[Nat.mul_add,Nat.mul_add,Nat.mul_one]at h1;omega
 have hd:(X+Y)/2^(64*j)=X/2^(64*j)+Y/2^(64*j):=by
  have e1:=Nat.div_add_mod X (2^(64*j));have e2:=Nat.div_add_mod Y (2^(64*j));have e3:X+Y=(X%2^(64*j)+Y%2^(64*j))+2^(64*j)*(X/2^(64*j)+Y/2^(64*j)):=by rw[Nat.mul_add];omega
  rw[e3,Nat.add_mul_div_left _ _ (Nat.two_pow_pos _),Nat.div_eq_of_lt (key j),Nat.zero_add]
 have hj:=h j;unfold ln at hj⊢;simp only[Nat.shiftRight_eq_div_pow]at hj⊢;rw[hd,Nat.add_mod,Nat.mod_eq_of_lt hj]
theorem qWu {X c:Nat}(h:∀j,ln j X*c<2^64)(j:Nat):ln j (X*c)=ln j X*c:=by
 have key:∀j,(X%2^(64*j))*c<2^(64*j)\/c=0:=by
  intro j;rcases Nat.eq_zero_or_pos c with h0|h0
  .exact .inr h0
  left
  induction j with
  |zero=>simp[Nat.mod_one]
  |succ j ih=>
   have h1:2^(64*j)*(ln j X*c+1)<=2^(64*j)*2^64:=Nat.mul_le_mul_left _ (h j);rw[zIb,show 64*(j+1)=64*j+64 by omega,Nat.pow_add,Nat.add_mul,Nat.mul_assoc];rw[Nat.mul_add,Nat.mul_one]at h1;omega
 have hd:X*c/2^(64*j)=X/2^(64*j)*c:=by
  rcases key j with hk|rfl
  .have e1:=Nat.div_add_mod X (2^(64*j));have e3:X*c=(X%2^(64*j))*c+2^(64*j)*(X/2^(64*j)*c):=by
    rw[<-Nat.mul_assoc,<-Nat.add_mul,Nat.add_comm,e1]
   rw[e3,Nat.add_mul_div_left _ _ (Nat.two_pow_pos _),Nat.div_eq_of_lt hk,Nat.zero_add]
  .simp
 have hj:=h j;unfold ln at hj⊢;simp only[Nat.shiftRight_eq_div_pow]at hj⊢;rw[hd,show X/2^(64*j)*c%2^64=(X/2^(64*j)%2^64*c)%2^64 from by(conv=>rhs;rw[Nat.mul_mod,Nat.mod_mod]);exact Nat.mul_mod _ _ _,Nat.mod_eq_of_lt hj]
structure Mk (i M:Nat):Prop where
 wd:Wd M
 at_:ln i M=4294967295
def Rw (i X:Nat)(u:UInt32):Prop:=Wd X/\ln i X=u.toNat
theorem zJ3 {x:Nat}:x &&& 4294967295=x%4294967296:=Nat.and_two_pow_sub_one_eq_mod x 32
theorem Wd.and {X M:Nat}(h:Wd M):Wd (X &&& M):=λj=>by
 rw[qWt];exact Nat.lt_of_le_of_lt Nat.and_le_right (h j)
theorem Mk.and {i X M:Nat}(h:Mk i M):ln i (X &&& M)=ln i X%4294967296:=by rw[qWt,h.at_,zJ3]
theorem zVe {x y:Nat}(hx:x<4294967296)(hy:y<4294967296):x ^^^ y<4294967296:=Nat.xor_lt_two_pow (n:=32) hx hy
theorem jRx {x y:Nat}(hx:x<4294967296)(hy:y<4294967296):x ||| y<4294967296:=Nat.or_lt_two_pow (n:=32) hx hy
theorem zVd {x y:Nat}(hy:y<4294967296):x &&& y<4294967296:=Nat.lt_of_le_of_lt Nat.and_le_right hy
theorem qVa {X:Nat}(h:Wd X)(j:Nat):ln j (X*4294967297)=ln j X*4294967297:=qWu (λj=>by have:=h j;omega) j
def sgP (M y z k1 k2 k3:Nat):Nat:=Nat.land (Nat.xor (Nat.xor (Nat.shiftRight y k1) (Nat.shiftRight y k2)) (Nat.shiftRight z k3)) M
theorem zMi {M y z k1 k2 k3:Nat}(h:Wd M):Wd (sgP M y z k1 k2 k3):=h.and
theorem zMh {i M y z k1 k2 k3:Nat}(h:Mk i M)(h1:k1<=32)(h2:k2<=32)(h3:k3<=32):ln i (sgP M y z k1 k2 k3)=(ln i y >>> k1 ^^^ ln i y >>> k2 ^^^ ln i z >>> k3)%4294967296:=by
 refine(jP2 h1 h2 h3 (h.wd i)).trans ?_;rw[h.at_,zJ3]
def jS7 {α:Type}(M a b c d e f g h kw:Nat)(k:K8 α):α:=
 sqB (Nat.mul e 4294967297) λy=>
 sqB (Nat.mul a 4294967297) λz=>
 sqB (Nat.add (Nat.add h kw) (Nat.add (sgP M y y 6 11 25) (Nat.xor g (Nat.land e (Nat.xor f g))))) λt1=>
 sqB (Nat.land (Nat.add d t1) M) λe2=>
 sqB (Nat.land (Nat.add t1 (Nat.add (sgP M z z 2 13 22) (Nat.lor (Nat.land a b) (Nat.land c (Nat.lor a b))))) M) λa2=>
 k a2 a b c e2 e f g
theorem jH6 {α:Type}{i M a b c d e f g h kw:Nat}(hM:Mk i M)(ha:Wd a)(hb:Wd b)(hc:Wd c)(hd:Wd d)(he:Wd e)(hf:Wd f)(hg:Wd g)(hh:Wd h)(hk:∀j,ln j kw<2*4294967296)(K:K8 α) :
  ∃a2 e2,Wd a2/\Wd e2/\jS7 M a b c d e f g h kw K=K a2 a b c e2 e f g/\
   ∀{γ:Type}(K':K8 γ),jS6 (ln i a) (ln i b) (ln i c) (ln i d) (ln i e) (ln i f) (ln i g) (ln i h) (ln i kw) K'=K' (ln i a2) (ln i a) (ln i b) (ln i c) (ln i e2) (ln i e) (ln i f) (ln i g):=by
 have w1:Wd (sgP M (e*4294967297) (e*4294967297) 6 11 25):=zMi hM.wd;have w2:Wd (sgP M (a*4294967297) (a*4294967297) 2 13 22):=zMi hM.wd;have w3:Wd (g ^^^ (e &&& (f ^^^ g))):=λj=>by
  rw[zE2,qWt,zE2];exact zVe (hg j) (zVd (zVe (hf j) (hg j)))
 have w4:Wd (a &&& b ||| c &&& (a ||| b)):=λj=>by
  rw[jGn,qWt,qWt,jGn];exact jRx (zVd (hb j)) (zVd (jRx (ha j) (hb j)))
 have l1:∀j,ln j (h+kw)=ln j h+ln j kw:=qFa (λj=>by have:=hh j;have:=hk j;omega);have l2:∀j,ln j (sgP M (e*4294967297) (e*4294967297) 6 11 25+(g ^^^ (e &&& (f ^^^ g))))=ln j (sgP M (e*4294967297) (e*4294967297) 6 11 25)+ln j (g ^^^ (e &&& (f ^^^ g))):=qFa (λj=>by have:=w1 j;have:=w3 j;omega);have l3:∀j,ln j (h+kw+(sgP M (e*4294967297) (e*4294967297) 6 11 25+(g ^^^ (e &&& (f ^^^ g)))))=ln j h+ln j kw+(ln j (sgP M (e*4294967297) (e*4294967297) 6 11 25)+ln j (g ^^^ (e &&& (f ^^^ g)))):=λj=>by
  rw[qFa (λj=>by rw[l1,l2];have:=hh j;have:=hk j;have:=w1 j;have:=w3 j;omega),l1,l2]
 have b3:∀j,ln j (h+kw+(sgP M (e*4294967297) (e*4294967297) 6 11 25+(g ^^^ (e &&& (f ^^^ g)))))<5*4294967296:=λj=>by
  rw[l3];have:=hh j;have:=hk j;have:=w1 j;have:=w3 j;omega
 generalize hT:h+kw+(sgP M (e*4294967297) (e*4294967297) 6 11 25+(g ^^^ (e &&& (f ^^^ g))))=T at *;have l4:∀j,ln j (d+T)=ln j d+ln j T:=qFa (λj=>by have:=hd j;have:=b3 j;omega);have l5:∀j,ln j (sgP M (a*4294967297) (a*4294967297) 2 13 22+(a &&& b ||| c &&& (a ||| b)))=ln j (sgP M (a*4294967297) (a*4294967297) 2 13 22)+ln j (a &&& b ||| c &&& (a ||| b)):=qFa (λj=>by have:=w2 j;have:=w4 j;omega);have l6:∀j,ln j (T+(sgP M (a*4294967297) (a*4294967297) 2 13 22+(a &&& b ||| c &&& (a ||| b))))=ln j T+(ln j (sgP M (a*4294967297) (a*4294967297) 2 13 22)+ln j (a &&& b ||| c &&& (a ||| b))):=λj=>by
  rw[qFa (λj=>by rw[l5];have:=b3 j;have:=w2 j;have:=w4 j;omega),l5]
 refine⟨(T+(sgP M (a*4294967297) (a*4294967297) 2 13 22+(a &&& b ||| c &&& (a ||| b)))) &&& M,(d+T) &&& M,hM.wd.and,hM.wd.and,?_,λK'=>?_⟩
 .unfold jS7;simp only[zMj];rw[<-hT];rfl
 .rw[hM.and,hM.and,l4,l6,l3,zMh hM (by decide) (by decide) (by decide),zMh hM (by decide) (by decide) (by decide),qVa he,qVa ha];simp only[zE2,qWt,jGn];unfold jS6;simp only[zMk];rfl
def wnP {α:Type}(M w0 w1 w9 w14:Nat)(k:Nat->α):α:=
 sqB (Nat.mul w1 4294967297) λy=>
 sqB (Nat.mul w14 4294967297) λz=>
 sqB (Nat.land (Nat.add (Nat.add w0 w9) (Nat.add (sgP M y w1 7 18 3) (sgP M z w14 17 19 10))) M) k
theorem jR0 {α:Type}{i M w0 w1 w9 w14:Nat}(hM:Mk i M)(h0:Wd w0)(h1:Wd w1)(h9:Wd w9)(h14:Wd w14)(K:Nat->α) :
  ∃w,Wd w/\wnP M w0 w1 w9 w14 K=K w/\∀{γ:Type}(K':Nat->γ),wnN (ln i w0) (ln i w1) (ln i w9) (ln i w14) K'=K' (ln i w):=by
 have q1:Wd (sgP M (w1*4294967297) w1 7 18 3):=zMi hM.wd;have q2:Wd (sgP M (w14*4294967297) w14 17 19 10):=zMi hM.wd;have l1:∀j,ln j (w0+w9)=ln j w0+ln j w9:=qFa (λj=>by have:=h0 j;have:=h9 j;omega);have l2:∀j,ln j (sgP M (w1*4294967297) w1 7 18 3+sgP M (w14*4294967297) w14 17 19 10)=ln j (sgP M (w1*4294967297) w1 7 18 3)+ln j (sgP M (w14*4294967297) w14 17 19 10):=qFa (λj=>by have:=q1 j;have:=q2 j;omega);have l3:∀j,ln j (w0+w9+(sgP M (w1*4294967297) w1 7 18 3+sgP M (w14*4294967297) w14 17 19 10))=ln j w0+ln j w9+(ln j (sgP M (w1*4294967297) w1 7 18 3)+ln j (sgP M (w14*4294967297) w14 17 19 10)):=λj=>by
  rw[qFa (λj=>by rw[l1,l2];have:=h0 j;have:=h9 j;have:=q1 j;have:=q2 j;omega),l1,l2]
 have sm:∀{x k:Nat},x<4294967296->(x >>> k)%4294967296=x >>> k:=λh=>Nat.mod_eq_of_lt (Nat.lt_of_le_of_lt (by rw[Nat.shiftRight_eq_div_pow];exact Nat.div_le_self _ _) h)
 refine⟨(w0+w9+(sgP M (w1*4294967297) w1 7 18 3+sgP M (w14*4294967297) w14 17 19 10)) &&& M,hM.wd.and,?_,λK'=>?_⟩
 .unfold wnP;simp only[zMj];rfl
 .rw[hM.and,l3,zMh hM (by decide) (by decide) (by decide),zMh hM (by decide) (by decide) (by decide),qVa h1,qVa h14,qVo,qVo (b:=ln i w14 >>> 10),sm (h1 i),sm (h14 i)];unfold wnN;simp only[zMk];rfl
structure On (i O:Nat):Prop where
 wd:∀j,ln j O<=1
 at_:ln i O=1
noncomputable def goP {α:Type}(M O:Nat)(ks:List Nat):Nat->Nat->Nat->Nat->Nat->Nat->Nat->Nat->Nat->Nat->Nat->Nat->Nat->Nat->Nat->Nat->Nat->Nat->Nat->Nat->Nat->Nat->Nat->Nat->K8 α->α:=
 ks.rec (λa b c d e f g h _ _ _ _ _ _ _ _ _ _ _ _ _ _ _ _ K=>K a b c d e f g h)
  (λk _ ih a b c d e f g h w0 w1 w2 w3 w4 w5 w6 w7 w8 w9 w10 w11 w12 w13 w14 w15 K=>wnP M w0 w1 w9 w14 λw16=>jS7 M a b c d e f g h (Nat.add (Nat.mul O k) w0) λa b c d e f g h=>ih a b c d e f g h w1 w2 w3 w4 w5 w6 w7 w8 w9 w10 w11 w12 w13 w14 w15 w16 K)
theorem jC6 {α:Type}{i M O:Nat}(hM:Mk i M)(hO:On i O){W:Nat->UInt32}(hW:∀t,W (t+16)=zV1 (W (t+14))+W (t+9)+zV0 (W (t+1))+W t)(K:K8 α):∀(ks:List UInt32)(t:Nat){A B C D E F G H V0 V1 V2 V3 V4 V5 V6 V7 V8 V9 V10 V11 V12 V13 V14 V15:Nat}{a b c d e f g h:UInt32},
  Rw i A a->Rw i B b->Rw i C c->Rw i D d->Rw i E e->Rw i F f->Rw i G g->Rw i H h->
  Rw i V0 (W t)->Rw i V1 (W (t+1))->Rw i V2 (W (t+2))->Rw i V3 (W (t+3))->Rw i V4 (W (t+4))->Rw i V5 (W (t+5))->Rw i V6 (W (t+6))->Rw i V7 (W (t+7))->Rw i V8 (W (t+8))->Rw i V9 (W (t+9))->Rw i V10 (W (t+10))->Rw i V11 (W (t+11))->Rw i V12 (W (t+12))->Rw i V13 (W (t+13))->Rw i V14 (W (t+14))->Rw i V15 (W (t+15))->
  ∃(A' B' C' D' E' F' G' H':Nat)(a' b' c' d' e' f' g' h':UInt32),(Rw i A' a'/\Rw i B' b'/\Rw i C' c'/\Rw i D' d'/\Rw i E' e'/\Rw i F' f'/\Rw i G' g'/\Rw i H' h')/\jO6 W ks t [a,b,c,d,e,f,g,h]=[a',b',c',d',e',f',g',h']/\
   goP M O (ks.map UInt32.toNat) A B C D E F G H V0 V1 V2 V3 V4 V5 V6 V7 V8 V9 V10 V11 V12 V13 V14 V15 K=K A' B' C' D' E' F' G' H'
 |[],t,A,B,C,D,E,F,G,H,_,_,_,_,_,_,_,_,_,_,_,_,_,_,_,_,a,b,c,d,e,f,g,h,hA,hB,hC,hD,hE,hF,hG,hH,_,_,_,_,_,_,_,_,_,_,_,_,_,_,_,_=>⟨A,B,C,D,E,F,G,H,a,b,c,d,e,f,g,h,⟨hA,hB,hC,hD,hE,hF,hG,hH⟩,rfl,rfl⟩
 |k::r,t,A,B,C,D,E,F,G,H,V0,V1,V2,V3,V4,V5,V6,V7,V8,V9,V10,V11,V12,V13,V14,V15,a,b,c,d,e,f,g,h,hA,hB,hC,hD,hE,hF,hG,hH,v0,v1,v2,v3,v4,v5,v6,v7,v8,v9,v10,v11,v12,v13,v14,v15=>by
  have hk:k.toNat<4294967296:=k.toNat_lt;have lo:∀j,ln j (O*k.toNat)=ln j O*k.toNat:=qWu (λj=>by
   have h1:ln j O*k.toNat<=1*k.toNat:=Nat.mul_le_mul_right _ (hO.wd j);omega)
  have bo:∀j,ln j (O*k.toNat)<4294967296:=λj=>by
   rw[lo];have h1:ln j O*k.toNat<=1*k.toNat:=Nat.mul_le_mul_right _ (hO.wd j);omega
  have lk:∀j,ln j (O*k.toNat+V0)=ln j (O*k.toNat)+ln j V0:=qFa (λj=>by have:=bo j;have:=v0.1 j;omega);obtain⟨w16,hw,ew,ew'⟩:=jR0 hM v0.1 v1.1 v9.1 v14.1 (λw16=>jS7 M A B C D E F G H (Nat.add (Nat.mul O k.toNat) V0) λa b c d e f g h=>goP M O (r.map UInt32.toNat) a b c d e f g h V1 V2 V3 V4 V5 V6 V7 V8 V9 V10 V11 V12 V13 V14 V15 w16 K);have rw16:Rw i w16 (W (t+16)):=by
   refine⟨hw,?_⟩;have e1:=ew' (λx=>x);have e2:=jRz (W t) (W (t+1)) (W (t+9)) (W (t+14)) (λx=>x);rw[<-v0.2,<-v1.2,<-v9.2,<-v14.2,e1]at e2;rw[e2,hW t]
  obtain⟨a2,e2,ha2,he2,er,er'⟩:=jH6 (kw:=O*k.toNat+V0) hM hA.1 hB.1 hC.1 hD.1 hE.1 hF.1 hG.1 hH.1 (λj=>by rw[lk];have:=bo j;have:=v0.1 j;omega) (λa b c d e f g h=>goP M O (r.map UInt32.toNat) a b c d e f g h V1 V2 V3 V4 V5 V6 V7 V8 V9 V10 V11 V12 V13 V14 V15 w16 K);have hkw:ln i (O*k.toNat+V0)=k.toNat+(W t).toNat:=by rw[lk,lo,hO.at_,Nat.one_mul,v0.2]
  have ra:Rw i a2 (h+(qBc e 6 ^^^ qBc e 11 ^^^ qBc e 25)+((e &&& f) ^^^ (~~~e &&& g))+k+W t+((qBc a 2 ^^^ qBc a 13 ^^^ qBc a 22)+((a &&& b) ^^^ (a &&& c) ^^^ (b &&& c))))/\Rw i e2 (d+(h+(qBc e 6 ^^^ qBc e 11 ^^^ qBc e 25)+((e &&& f) ^^^ (~~~e &&& g))+k+W t)):=by
   have q1:=er' (λx _ _ _ y _ _ _=>(x,y));have q2:=jH5 a b c d e f g h k (W t) (λx _ _ _ y _ _ _=>(x,y));rw[hkw,hA.2,hB.2,hC.2,hD.2,hE.2,hF.2,hG.2,hH.2]at q1;rw[q1]at q2;simp only[Prod.mk.injEq]at q2;exact⟨⟨ha2,q2.1⟩,he2,q2.2⟩
  obtain⟨A',B',C',D',E',F',G',H',a',b',c',d',e',f',g',h',hR,h1,h2⟩:=jC6 hM hO hW K r (t+1) ra.1 hA hB hC ra.2 hE hF hG v1 v2 v3 v4 v5 v6 v7 v8 v9 v10 v11 v12 v13 v14 v15 rw16;exact⟨A',B',C',D',E',F',G',H',a',b',c',d',e',f',g',h',hR,h1,ew.trans (er.trans h2)⟩
theorem qJs {i M X Y:Nat}{x y:UInt32}(hM:Mk i M)(hx:Rw i X x)(hy:Rw i Y y):Rw i (Nat.land (Nat.add X Y) M) (x+y):=by
 refine⟨hM.wd.and,?_⟩;show ln i ((X+Y) &&& M)=_;rw[hM.and,qFa (λj=>by have:=hx.1 j;have:=hy.1 j;omega),hx.2,hy.2,UInt32.toNat_add]
noncomputable def jSy {α:Type}(M O a b c d e f g h V0 V1 V2 V3 V4 V5 V6 V7 V8 V9 V10 V11 V12 V13 V14 V15:Nat)(K:K8 α):α:=
 goP M O kN a b c d e f g h V0 V1 V2 V3 V4 V5 V6 V7 V8 V9 V10 V11 V12 V13 V14 V15 λa' b' c' d' e' f' g' h'=>
  sqB (Nat.land (Nat.add a a') M) λa=>sqB (Nat.land (Nat.add b b') M) λb=>sqB (Nat.land (Nat.add c c') M) λc=>sqB (Nat.land (Nat.add d d') M) λd=>sqB (Nat.land (Nat.add e e') M) λe=>sqB (Nat.land (Nat.add f f') M) λf=>sqB (Nat.land (Nat.add g g') M) λg=>sqB (Nat.land (Nat.add h h') M) λh=>K a b c d e f g h
theorem jFg {α:Type}{i M O:Nat}(hM:Mk i M)(hO:On i O)(K:K8 α)(bs:List UInt8){A B C D E F G H V0 V1 V2 V3 V4 V5 V6 V7 V8 V9 V10 V11 V12 V13 V14 V15:Nat}{a b c d e f g h:UInt32}(hA:Rw i A a)(hB:Rw i B b)(hC:Rw i C c)(hD:Rw i D d)(hE:Rw i E e)(hF:Rw i F f)(hG:Rw i G g)(hH:Rw i H h)(v0:Rw i V0 (vG bs 0))(v1:Rw i V1 (vG bs 1))(v2:Rw i V2 (vG bs 2))(v3:Rw i V3 (vG bs 3))(v4:Rw i V4 (vG bs 4))(v5:Rw i V5 (vG bs 5))(v6:Rw i V6 (vG bs 6))(v7:Rw i V7 (vG bs 7))(v8:Rw i V8 (vG bs 8))(v9:Rw i V9 (vG bs 9))(v10:Rw i V10 (vG bs 10))(v11:Rw i V11 (vG bs 11))(v12:Rw i V12 (vG bs 12))(v13:Rw i V13 (vG bs 13))(v14:Rw i V14 (vG bs 14))(v15:Rw i V15 (vG bs 15)) :
  ∃(A' B' C' D' E' F' G' H':Nat)(a' b' c' d' e' f' g' h':UInt32),(Rw i A' a'/\Rw i B' b'/\Rw i C' c'/\Rw i D' d'/\Rw i E' e'/\Rw i F' f'/\Rw i G' g'/\Rw i H' h')/\vK [a,b,c,d,e,f,g,h] bs=[a',b',c',d',e',f',g',h']/\
   jSy M O A B C D E F G H V0 V1 V2 V3 V4 V5 V6 V7 V8 V9 V10 V11 V12 V13 V14 V15 K=K A' B' C' D' E' F' G' H':=by
 obtain⟨A',B',C',D',E',F',G',H',a',b',c',d',e',f',g',h',⟨ra,rb,rc,rd,re,rf,rg,rh⟩,e1,e2⟩:=jC6 (W:=wU bs) hM hO (λ_=>jX3) (λa' b' c' d' e' f' g' h'=>sqB (Nat.land (Nat.add A a') M) λa=>sqB (Nat.land (Nat.add B b') M) λb=>sqB (Nat.land (Nat.add C c') M) λc=>sqB (Nat.land (Nat.add D d') M) λd=>sqB (Nat.land (Nat.add E e') M) λe=>sqB (Nat.land (Nat.add F f') M) λf=>sqB (Nat.land (Nat.add G g') M) λg=>sqB (Nat.land (Nat.add H h') M) λh=>K a b c d e f g h) qTv 0 hA hB hC hD hE hF hG hH (by rw[qLt (by decide)];exact v0) (by rw[qLt (by decide)];exact v1) (by rw[qLt (by decide)];exact v2) (by rw[qLt (by decide)];exact v3) (by rw[qLt (by decide)];exact v4) (by rw[qLt (by decide)];exact v5) (by rw[qLt (by decide)];exact v6) (by rw[qLt (by decide)];exact v7) (by rw[qLt (by decide)];exact v8) (by rw[qLt (by decide)];exact v9) (by rw[qLt (by decide)];exact v10) (by rw[qLt (by decide)];exact v11) (by rw[qLt (by decide)];exact v12) (by rw[qLt (by decide)];exact v13) (by rw[qLt (by decide)];exact v14) (by rw[qLt (by decide)];exact v15);have e3:=zTb (bs:=bs) (hs:=[a,b,c,d,e,f,g,h]) (n:=64) (Nat.le_refl _);refine⟨_,_,_,_,_,_,_,_,a+a',b+b',c+c',d+d',e+e',f+f',g+g',h+h',⟨qJs hM hA ra,qJs hM hB rb,qJs hM hC rc,qJs hM hD rd,qJs hM hE re,qJs hM hF rf,qJs hM hG rg,qJs hM hH rh⟩,?_,?_⟩
 .rw[vK,<-e3];show zJ0 [a,b,c,d,e,f,g,h] (jO6 (wU bs) qTv 0 [a,b,c,d,e,f,g,h]) 8=_;rw[e1];rfl
 .rw[jU3]at e2;unfold jSy;rw[e2];simp only[zMj]
noncomputable def hP (M O:Nat)(bl:List (List Nat)):Nat->Nat->Nat->Nat->Nat->Nat->Nat->Nat->Nat:=
 bl.rec (λa _ _ _ _ _ _ _=>a) (λw _ ih a b c d e f g h=>jSy M O a b c d e f g h (w.getD 0 0) (w.getD 1 0) (w.getD 2 0) (w.getD 3 0) (w.getD 4 0) (w.getD 5 0) (w.getD 6 0) (w.getD 7 0) (w.getD 8 0) (w.getD 9 0) (w.getD 10 0) (w.getD 11 0) (w.getD 12 0) (w.getD 13 0) (w.getD 14 0) (w.getD 15 0) ih)
def Rb (i:Nat)(w:List Nat)(bs:List UInt8):Prop:=∀j,j<16->Rw i (w.getD j 0) (vG bs j)
theorem jMd {i M O:Nat}(hM:Mk i M)(hO:On i O):∀{bl:List (List Nat)}{bb:List (List UInt8)},xU (Rb i) bl bb->∀{A B C D E F G H:Nat}{a b c d e f g h:UInt32},Rw i A a->Rw i B b->Rw i C c->Rw i D d->Rw i E e->Rw i F f->Rw i G g->Rw i H h->
  Rw i (hP M O bl A B C D E F G H) ((bb.foldl vK [a,b,c,d,e,f,g,h]).getD 0 0)
 |[],[],.nil,A,B,C,D,E,F,G,H,a,b,c,d,e,f,g,h,hA,hB,hC,hD,hE,hF,hG,hH=>hA
 |w::bl,bs::bb,.cons hw hr,A,B,C,D,E,F,G,H,a,b,c,d,e,f,g,h,hA,hB,hC,hD,hE,hF,hG,hH=>by
  obtain⟨A',B',C',D',E',F',G',H',a',b',c',d',e',f',g',h',⟨ra,rb,rc,rd,re,rf,rg,rh⟩,e1,e2⟩:=jFg hM hO (hP M O bl) bs hA hB hC hD hE hF hG hH (hw 0 (by decide)) (hw 1 (by decide)) (hw 2 (by decide)) (hw 3 (by decide)) (hw 4 (by decide)) (hw 5 (by decide)) (hw 6 (by decide)) (hw 7 (by decide)) (hw 8 (by decide)) (hw 9 (by decide)) (hw 10 (by decide)) (hw 11 (by decide)) (hw 12 (by decide)) (hw 13 (by decide)) (hw 14 (by decide)) (hw 15 (by decide));rw[foldl_cons,e1];show Rw i (jSy M O A B C D E F G H (w.getD 0 0) (w.getD 1 0) (w.getD 2 0) (w.getD 3 0) (w.getD 4 0) (w.getD 5 0) (w.getD 6 0) (w.getD 7 0) (w.getD 8 0) (w.getD 9 0) (w.getD 10 0) (w.getD 11 0) (w.getD 12 0) (w.getD 13 0) (w.getD 14 0) (w.getD 15 0) (hP M O bl)) _;rw[e2];exact jMd hM hO hr ra rb rc rd re rf rg rh
theorem zRv {comp:List UInt32->List UInt8->List UInt32}{iv:List UInt32}{p:List UInt8}:∀{k:Nat},hN comp iv p k=((List.range k).map λj=>(p.drop (64*j)).take 64).foldl comp iv
 |0=>rfl
 |k+1=>by
  rw[range_succ,map_append,foldl_append,<-zRv];rfl
def zRx (bs:List UInt8):UInt32:=(hN vK qQs (qA2 bs) ((qA2 bs).length/64)).getD 0 0
theorem zXu {a b:List UInt8}(h:zRx a≠zRx b):jF a≠jF b:=by
 intro e;apply h;have inj:∀{x y:List UInt32},x.length=y.length->kK x=kK y->x=y:=by
  intro x
  induction x with
  |nil=>intro y hl _;exact(eq_nil_of_length_eq_zero hl.symm).symm
  |cons u x ih=>
   intro y hl he;cases y with
   |nil=>simp at hl
   |cons v y=>
    simp only[kK,flatMap_cons]at he;obtain⟨h1,h2⟩:=append_inj he rfl;have huv:u=v:=by
     simp only[qSq,List.cons.injEq,and_true]at h1;obtain⟨p1,p2,p3,p4⟩:=h1;have q1:=congrArg UInt8.toNat p1;have q2:=congrArg UInt8.toNat p2;have q3:=congrArg UInt8.toNat p3;have q4:=congrArg UInt8.toNat p4;have s24:((24:UInt32).toNat%32)=24:=rfl;have s16:((16:UInt32).toNat%32)=16:=rfl;have s8:((8:UInt32).toNat%32)=8:=rfl;simp only[UInt32.toNat_toUInt8,UInt32.toNat_shiftRight,Nat.shiftRight_eq_div_pow,s24,s16,s8]at q1 q2 q3 q4;apply UInt32.toNat_inj.1;have hu:=u.toNat_lt;have hv:=v.toNat_lt;omega
    rw[huv,ih (by simpa using hl) h2]
 have:=inj (by rw[qIj,qIj]) e;unfold zRx;rw[this]
abbrev Sy:=Nat×Nat×Nat×Nat
def Sy.ok (s:Sy):Bool:=(s.1<256&&s.2.1==0&&s.2.2.1==0&&s.2.2.2==0)||(s.1<=10&&s.2.1<=1&&s.2.2.1<=1&&s.2.2.2<=1)
def Sy.n (r k m:Nat)(s:Sy):Nat:=s.1+r*s.2.1+k*s.2.2.1+m*s.2.2.2
def Sy.b (r k m:Nat)(s:Sy):UInt8:=UInt8.ofNat (s.n r k m)
theorem Sy.lt {s:Sy}(h:s.ok=true){r k m:Nat}(hr:r<=50)(hk:k<=50)(hm:m<=50):s.n r k m<256:=by
 obtain⟨c,x,y,z⟩:=s;simp only[Sy.ok,Bool.or_eq_true,Bool.and_eq_true,decide_eq_true_eq,beq_iff_eq]at h;simp only[Sy.n];rcases h with⟨⟨⟨h1,rfl⟩,rfl⟩,rfl⟩|⟨⟨⟨h1,h2⟩,h3⟩,h4⟩
 .omega
 .have e1:r*x<=r*1:=Nat.mul_le_mul_left _ h2;have e2:k*y<=k*1:=Nat.mul_le_mul_left _ h3;have e3:m*z<=m*1:=Nat.mul_le_mul_left _ h4;omega
theorem Sy.toNat {s:Sy}(h:s.ok=true){r k m:Nat}(hr:r<=50)(hk:k<=50)(hm:m<=50):(s.b r k m).toNat=s.n r k m:=by
 have:=Sy.lt h hr hk hm;unfold Sy.b;rw[UInt8.toNat_ofNat'];exact Nat.mod_eq_of_lt this
def w4 (a b c d:Nat):Nat:=a*16777216+b*65536+c*256+d
theorem jBl {bs:List UInt8}{j:Nat}:(vG bs j).toNat=w4 (bs.getD (4*j) 0).toNat (bs.getD (4*j+1) 0).toNat (bs.getD (4*j+2) 0).toNat (bs.getD (4*j+3) 0).toNat:=by
 unfold vG w4;generalize bs.getD (4*j) 0=a;generalize bs.getD (4*j+1) 0=b;generalize bs.getD (4*j+2) 0=c;generalize bs.getD (4*j+3) 0=d;have ha:=a.toNat_lt;have hb:=b.toNat_lt;have hc:=c.toNat_lt;have hd:=d.toNat_lt;have s24:((24:UInt32).toNat%32)=24:=rfl;have s16:((16:UInt32).toNat%32)=16:=rfl;have s8:((8:UInt32).toNat%32)=8:=rfl;simp only[UInt32.toNat_or,UInt32.toNat_shiftLeft,UInt8.toNat_toUInt32,s24,s16,s8];rw[Nat.mod_eq_of_lt (a:=a.toNat <<< 24) (by rw[Nat.shiftLeft_eq];omega),Nat.mod_eq_of_lt (a:=b.toNat <<< 16) (by rw[Nat.shiftLeft_eq];omega),Nat.mod_eq_of_lt (a:=c.toNat <<< 8) (by rw[Nat.shiftLeft_eq];omega)];rw[Nat.or_assoc,Nat.or_assoc,<-Nat.shiftLeft_add_eq_or_of_lt (i:=8) oM,<-Nat.shiftLeft_add_eq_or_of_lt (i:=16) (by rw[Nat.shiftLeft_eq];omega),<-Nat.shiftLeft_add_eq_or_of_lt (i:=24) (by simp only[Nat.shiftLeft_eq];omega)];simp only[Nat.shiftLeft_eq];omega
structure L3 (O R K N:Nat):Prop where
 o:∀j,ln j O<=1
 r:∀j,ln j R<=50
 k:∀j,ln j K<=50
 n:∀j,ln j N<=50
def wP (O R K N:Nat)(a b c d:Sy):Nat:=Nat.add (Nat.add (Nat.mul O (w4 a.1 b.1 c.1 d.1)) (Nat.mul R (w4 a.2.1 b.2.1 c.2.1 d.2.1))) (Nat.add (Nat.mul K (w4 a.2.2.1 b.2.2.1 c.2.2.1 d.2.2.1)) (Nat.mul N (w4 a.2.2.2 b.2.2.2 c.2.2.2 d.2.2.2)))
theorem jRr {a b c d:Nat}(ha:a<256)(hb:b<256)(hc:c<256)(hd:d<256):w4 a b c d<4294967296:=by unfold w4;omega
theorem Sy.one {s:Sy}(h:s.ok=true):s.1<256/\s.2.1<=1/\s.2.2.1<=1/\s.2.2.2<=1:=by
 obtain⟨c,x,y,z⟩:=s;simp only[Sy.ok,Bool.or_eq_true,Bool.and_eq_true,decide_eq_true_eq,beq_iff_eq]at h;rcases h with⟨⟨⟨h1,rfl⟩,rfl⟩,rfl⟩|⟨⟨⟨h1,h2⟩,h3⟩,h4⟩
 .exact⟨h1,Nat.zero_le 1,Nat.zero_le 1,Nat.zero_le 1⟩
 .exact⟨oM,h2,h3,h4⟩
theorem jX2 {O R K N:Nat}(h:L3 O R K N){a b c d:Sy}(ha:a.ok=true)(hb:b.ok=true)(hc:c.ok=true)(hd:d.ok=true){i:Nat}(hi:ln i O=1){bs:List UInt8}{j:Nat}
  (e0:bs.getD (4*j) 0=a.b (ln i R) (ln i K) (ln i N)) (e1:bs.getD (4*j+1) 0=b.b (ln i R) (ln i K) (ln i N)) (e2:bs.getD (4*j+2) 0=c.b (ln i R) (ln i K) (ln i N)) (e3:bs.getD (4*j+3) 0=d.b (ln i R) (ln i K) (ln i N)):Rw i (wP O R K N a b c d) (vG bs j):=by
 obtain⟨a1,a2,a3,a4⟩:=Sy.one ha;obtain⟨b1,b2,b3,b4⟩:=Sy.one hb;obtain⟨c1,c2,c3,c4⟩:=Sy.one hc;obtain⟨d1,d2,d3,d4⟩:=Sy.one hd;have x1:w4 a.1 b.1 c.1 d.1<4294967296:=jRr a1 b1 c1 d1;have x2:w4 a.2.1 b.2.1 c.2.1 d.2.1<=16843009:=by unfold w4;omega
 have x3:w4 a.2.2.1 b.2.2.1 c.2.2.1 d.2.2.1<=16843009:=by unfold w4;omega
 have x4:w4 a.2.2.2 b.2.2.2 c.2.2.2 d.2.2.2<=16843009:=by unfold w4;omega
 generalize h1:w4 a.1 b.1 c.1 d.1=C1 at *;generalize h2:w4 a.2.1 b.2.1 c.2.1 d.2.1=C2 at *;generalize h3:w4 a.2.2.1 b.2.2.1 c.2.2.1 d.2.2.1=C3 at *;generalize h4:w4 a.2.2.2 b.2.2.2 c.2.2.2 d.2.2.2=C4 at *;have y1:∀j,ln j O*C1<=1*C1:=λj=>Nat.mul_le_mul_right _ (h.o j)
 have y2:∀j,ln j R*C2<=50*16843009:=λj=>Nat.mul_le_mul (h.r j) x2
 have y3:∀j,ln j K*C3<=50*16843009:=λj=>Nat.mul_le_mul (h.k j) x3
 have y4:∀j,ln j N*C4<=50*16843009:=λj=>Nat.mul_le_mul (h.n j) x4
 have z1:∀j,ln j (O*C1)=ln j O*C1:=qWu (λj=>by have:=y1 j;omega);have z2:∀j,ln j (R*C2)=ln j R*C2:=qWu (λj=>by have:=y2 j;omega);have z3:∀j,ln j (K*C3)=ln j K*C3:=qWu (λj=>by have:=y3 j;omega);have z4:∀j,ln j (N*C4)=ln j N*C4:=qWu (λj=>by have:=y4 j;omega);have q1:∀j,ln j (O*C1+R*C2)=ln j O*C1+ln j R*C2:=λj=>by
  rw[qFa (λj=>by rw[z1,z2];have:=y1 j;have:=y2 j;omega),z1,z2]
 have q2:∀j,ln j (K*C3+N*C4)=ln j K*C3+ln j N*C4:=λj=>by
  rw[qFa (λj=>by rw[z3,z4];have:=y3 j;have:=y4 j;omega),z3,z4]
 have q3:∀j,ln j (wP O R K N a b c d)=ln j O*C1+ln j R*C2+(ln j K*C3+ln j N*C4):=λj=>by
  have e:wP O R K N a b c d=O*C1+R*C2+(K*C3+N*C4):=by rw[<-h1,<-h2,<-h3,<-h4];rfl
  rw[e,qFa (λj=>by rw[q1,q2];have:=y1 j;have:=y2 j;have:=y3 j;have:=y4 j;omega),q1,q2]
 have q4:∀j,ln j O=1->ln j (wP O R K N a b c d)=w4 (a.n (ln j R) (ln j K) (ln j N)) (b.n (ln j R) (ln j K) (ln j N)) (c.n (ln j R) (ln j K) (ln j N)) (d.n (ln j R) (ln j K) (ln j N)):=λj hj=>by
  rw[q3,hj,<-h1,<-h2,<-h3,<-h4];unfold w4 Sy.n;simp only[Nat.mul_add,<-Nat.mul_assoc,Nat.add_mul];omega
 refine⟨λj=>?_,?_⟩
 .have ho:=h.o j;rcases(by omega:ln j O=1\/ln j O=0)with ho|ho
  .rw[q4 j ho];exact jRr (Sy.lt ha (h.r j) (h.k j) (h.n j)) (Sy.lt hb (h.r j) (h.k j) (h.n j)) (Sy.lt hc (h.r j) (h.k j) (h.n j)) (Sy.lt hd (h.r j) (h.k j) (h.n j))
  .rw[q3,ho,Nat.zero_mul];have:=y2 j;have:=y3 j;have:=y4 j;omega
 rw[q4 i hi,jBl,e0,e1,e2,e3,Sy.toNat ha (h.r i) (h.k i) (h.n i),Sy.toNat hb (h.r i) (h.k i) (h.n i),Sy.toNat hc (h.r i) (h.k i) (h.n i),Sy.toNat hd (h.r i) (h.k i) (h.n i)]
noncomputable def pkL (l:List Nat):Nat:=l.rec 0 λx _ ih=>Nat.add x (Nat.mul 18446744073709551616 ih)
theorem jDk:∀{l:List Nat},(∀x∈l,x<18446744073709551616)->∀j,ln j (pkL l)=l.getD j 0
 |[],_,j=>by
  show ln j 0=0;unfold ln;simp
 |x::l,h,j=>by
  have hx:x<2^64:=h x sM;have e:pkL (x::l)=x+2^64*pkL l:=rfl;rw[e];cases j with
  |zero=>
   unfold ln;rw[Nat.mul_zero,Nat.shiftRight_zero,Nat.add_mul_mod_self_left,Nat.mod_eq_of_lt hx];rfl
  |succ j=>
   have ih:=jDk (l:=l) (λy hy=>h y (by simp[hy])) j;rw[getD_cons_succ,<-ih];unfold ln;rw[show 64*(j+1)=64+64*j by omega,Nat.shiftRight_add,Nat.shiftRight_eq_div_pow (x+2^64*pkL l),Nat.add_mul_div_left _ _ (Nat.two_pow_pos _),Nat.div_eq_of_lt hx,Nat.zero_add]
abbrev La:=List (Nat×Nat×Nat)
noncomputable def La.O (l:La):Nat:=pkL (l.map λ_=>1)
noncomputable def La.R (l:La):Nat:=pkL (l.map λx=>x.1)
noncomputable def La.K (l:La):Nat:=pkL (l.map λx=>x.2.1)
noncomputable def La.N (l:La):Nat:=pkL (l.map λx=>x.2.2)
def La.Ok (l:La):Prop:=∀x∈l,x.1<=50/\x.2.1<=50/\x.2.2<=50
theorem qQo {α:Type}{f:α->Nat}{l:List α}{j:Nat}{x:α}(h:l[j]?=some x):(l.map f).getD j 0=f x:=by
 rw[getD_eq_getElem?_getD,getElem?_map,h];rfl
theorem qU8 {α:Type}{f:α->Nat}{l:List α}{b:Nat}(h:∀x∈l,f x<=b)(j:Nat):(l.map f).getD j 0<=b:=by
 rw[getD_eq_getElem?_getD,getElem?_map];cases e:l[j]? with
 |none=>exact Nat.zero_le _
 |some x=>exact h x (mem_of_getElem? e)
theorem La.ln {l:La}{f:Nat×Nat×Nat->Nat}(h:∀x∈l,f x<=50)(j:Nat):Go.Eng.ln j (pkL (l.map f))=(l.map f).getD j 0:=jDk (λx hx=>by
 rw[mem_map]at hx;obtain⟨y,hy,rfl⟩:=hx;have:=h y hy;omega) j
theorem La.l3 {l:La}(h:l.Ok):L3 l.O l.R l.K l.N where
 o j:=by
  rw[La.O,La.ln (λ_ _=>oM)];exact qU8 (λ_ _=>Nat.le_refl 1) j
 r j:=by
  rw[La.R,La.ln (λx hx=>(h x hx).1)];exact qU8 (λx hx=>(h x hx).1) j
 k j:=by
  rw[La.K,La.ln (λx hx=>(h x hx).2.1)];exact qU8 (λx hx=>(h x hx).2.1) j
 n j:=by
  rw[La.N,La.ln (λx hx=>(h x hx).2.2)];exact qU8 (λx hx=>(h x hx).2.2) j
theorem La.at_ {l:La}(h:l.Ok){i:Nat}{x:Nat×Nat×Nat}(hx:l[i]?=some x):Go.Eng.ln i l.O=1/\Go.Eng.ln i l.R=x.1/\Go.Eng.ln i l.K=x.2.1/\Go.Eng.ln i l.N=x.2.2:=by
 refine⟨?_,?_,?_,?_⟩
 .rw[La.O,La.ln (λ_ _=>oM),qQo hx]
 .rw[La.R,La.ln (λx hx=>(h x hx).1),qQo hx]
 .rw[La.K,La.ln (λx hx=>(h x hx).2.1),qQo hx]
 .rw[La.N,La.ln (λx hx=>(h x hx).2.2),qQo hx]
def Sy.c (n:Nat):Sy:=(n,0,0,0)
theorem Sy.c_b {n r k m:Nat}:(Sy.c n).b r k m=UInt8.ofNat n:=by unfold Sy.b Sy.n Sy.c;simp
def pdS (s:List Sy):List Sy:=s++[Sy.c 128]++List.replicate (zD1 s.length) (Sy.c 0)++(beL (s.length*8) 8).map λb=>Sy.c b.toNat
theorem jOm {s:List Sy}{r k m:Nat}:(pdS s).map (Sy.b r k m)=qA2 (s.map (Sy.b r k m)):=by
 unfold pdS qA2;simp only[map_append,mcn,map_replicate,Sy.c_b,map_map,length_map];congr 1
 conv=>rhs;rw[<-map_id (beL (s.length*8) 8)]
 apply map_congr_left;intro b _;show(Sy.c b.toNat).b r k m=b;rw[Sy.c_b];exact UInt8.ofNat_toNat
theorem jOn {s:List Sy}(h:s.all Sy.ok=true):(pdS s).all Sy.ok=true:=by
 have hc:∀{n:Nat},n<256->(Sy.c n).ok=true:=λh=>by
  unfold Sy.ok Sy.c;simp[h]
 unfold pdS;simp only[all_append,Bool.and_eq_true,all_eq_true,mem_singleton,mem_replicate,mem_map];refine⟨⟨⟨λx hx=>all_eq_true.1 h x hx,λx hx=>by rw[hx];rfl⟩,λx hx=>by rw[hx.2];rfl⟩,λx hx=>?_⟩;obtain⟨b,_,rfl⟩:=hx;exact hc b.toNat_lt
def wsP (O R K N:Nat):List Sy->List Nat
 |a::b::c::d::r=>wP O R K N a b c d::wsP O R K N r
 |_=>[]
theorem zMq {O R K N:Nat}{a b c d:Sy}{r:List Sy}:wsP O R K N (a::b::c::d::r)=wP O R K N a b c d::wsP O R K N r:=by rw[wsP]
theorem jR4 {O R K N:Nat}(h:L3 O R K N){i:Nat}(hi:ln i O=1){bs:List UInt8}{j:Nat}:∀(t:Nat){p:List Sy},p.all Sy.ok=true->4*t+3<p.length->
  (∀q,q<4->bs.getD (4*j+q) 0=((p.map (Sy.b (ln i R) (ln i K) (ln i N))).getD (4*t+q) 0))->Rw i ((wsP O R K N p).getD t 0) (vG bs j):=by
 intro t
 induction t with
 |zero=>
  intro p hp hl hb
  match p,hl with
  |a::b::c::d::r,_=>
   simp only[all_cons,Bool.and_eq_true]at hp;have e0:=hb 0 oM;have e1:=hb 1 oM;have e2:=hb 2 oM;have e3:=hb 3 oM;simp only[Nat.mul_zero,Nat.zero_add,map_cons,getD_cons_zero,getD_cons_succ,Nat.add_zero]at e0 e1 e2 e3;rw[zMq,getD_cons_zero];exact jX2 h hp.1 hp.2.1 hp.2.2.1 hp.2.2.2.1 hi e0 e1 e2 e3
  |[],hl=>simp only[length_nil]at hl;omega
  |[_],hl=>simp only[length_cons,length_nil]at hl;omega
  |[_,_],hl=>simp only[length_cons,length_nil]at hl;omega
  |[_,_,_],hl=>simp only[length_cons,length_nil]at hl;omega
 |succ t ih=>
  intro p hp hl hb
  match p,hl with
  |a::b::c::d::r,hl=>
   simp only[all_cons,Bool.and_eq_true]at hp;simp only[length_cons]at hl;rw[zMq,getD_cons_succ];refine ih hp.2.2.2.2 oM (λq hq=>?_);rw[hb q hq,show 4*(t+1)+q=4*t+q+1+1+1+1 by omega];simp only[map_cons,getD_cons_succ]
  |[],hl=>simp only[length_nil]at hl;omega
  |[_],hl=>simp only[length_cons,length_nil]at hl;omega
  |[_,_],hl=>simp only[length_cons,length_nil]at hl;omega
  |[_,_,_],hl=>simp only[length_cons,length_nil]at hl;omega
def bkP (ws:List Nat)(n:Nat):List (List Nat):=(List.range n).map λq=>(ws.drop (16*q)).take 16
theorem jKx {O R K N:Nat}(h:L3 O R K N){i:Nat}(hi:ln i O=1){p:List Sy}(hp:p.all Sy.ok=true){n:Nat}(hn:64*n<=p.length) :
  xU (Rb i) (bkP (wsP O R K N p) n) ((List.range n).map λq=>((p.map (Sy.b (ln i R) (ln i K) (ln i N))).drop (64*q)).take 64):=by
 have key:∀l:List Nat,(∀q∈l,q<n)->xU (Rb i) (l.map λq=>((wsP O R K N p).drop (16*q)).take 16) (l.map λq=>((p.map (Sy.b (ln i R) (ln i K) (ln i N))).drop (64*q)).take 64):=by
  intro l
  induction l with
  |nil=>intro _;exact .nil
  |cons q l ih=>
   intro hl;have hq:=hl q sM;refine .cons (λj hj=>?_) (ih (λx hx=>hl x (by simp[hx])));have e:(((wsP O R K N p).drop (16*q)).take 16).getD j 0=(wsP O R K N p).getD (16*q+j) 0:=by
    rw[getD_eq_getElem?_getD,getElem?_take,if_pos hj,getElem?_drop,<-getD_eq_getElem?_getD]
   rw[e];refine jR4 h hi _ hp oM (λy hy=>?_);rw[getD_eq_getElem?_getD,getElem?_take,if_pos oM,getElem?_drop,<-getD_eq_getElem?_getD,show 64*q+(4*j+y)=4*(16*q+j)+y by omega]
 exact key _ (λq hq=>mem_range.1 hq)
noncomputable def dgP (O R K N M:Nat)(s:List Sy):Nat:=
 hP M O (bkP (wsP O R K N (pdS s)) ((pdS s).length/64)) (Nat.mul O 0x6a09e667) (Nat.mul O 0xbb67ae85) (Nat.mul O 0x3c6ef372) (Nat.mul O 0xa54ff53a) (Nat.mul O 0x510e527f) (Nat.mul O 0x9b05688c) (Nat.mul O 0x1f83d9ab) (Nat.mul O 0x5be0cd19)
theorem zVx {i O:Nat}(hO:On i O)(u:UInt32):Rw i (Nat.mul O u.toNat) u:=by
 have hu:=u.toNat_lt;have b:∀j,ln j O*u.toNat<=1*u.toNat:=λj=>Nat.mul_le_mul_right _ (hO.wd j)
 have e:∀j,ln j (O*u.toNat)=ln j O*u.toNat:=qWu (λj=>by have:=b j;omega);refine⟨λj=>?_,?_⟩
 .show ln j (O*u.toNat)<_;rw[e];have:=b j;omega
 .show ln i (O*u.toNat)=_;rw[e,hO.at_,Nat.one_mul]
theorem jCr {l:La}(hl:l.Ok){i:Nat}{x:Nat×Nat×Nat}(hx:l[i]?=some x){M:Nat}(hM:Mk i M){s:List Sy}(hs:s.all Sy.ok=true):Rw i (dgP l.O l.R l.K l.N M s) (zRx (s.map (Sy.b x.1 x.2.1 x.2.2))):=by
 obtain⟨a1,a2,a3,a4⟩:=La.at_ hl hx;have h3:=La.l3 hl;have hO:On i l.O:=⟨h3.o,a1⟩;have hp:=jOn hs;have hb:=jKx h3 a1 hp (n:=(pdS s).length/64) oM;rw[a2,a3,a4]at hb;have:=jMd hM hO hb (zVx hO 0x6a09e667) (zVx hO 0xbb67ae85) (zVx hO 0x3c6ef372) (zVx hO 0xa54ff53a) (zVx hO 0x510e527f) (zVx hO 0x9b05688c) (zVx hO 0x1f83d9ab) (zVx hO 0x5be0cd19);rw[jOm]at this;have hlen:(pdS s).length=(qA2 (s.map (Sy.b x.1 x.2.1 x.2.2))).length:=by rw[<-jOm,length_map]
 unfold zRx;rw[zRv,<-hlen];exact this
theorem mkO {i O:Nat}(hO:On i O):Mk i (Nat.mul O 4294967295):=⟨(zVx hO 4294967295).1,(zVx hO 4294967295).2⟩
def nqP (O M a b:Nat):Bool:=Nat.beq (Nat.land (Nat.shiftRight (Nat.add (Nat.xor a b) M) 32) O) O
theorem jN8 {i O M a b:Nat}{u v:UInt32}(hM:Mk i M)(hO:On i O)(ha:Rw i a u)(hb:Rw i b v)(h:nqP O M a b=true):u≠v:=by
 have hx:Wd (a ^^^ b):=λj=>by rw[zE2];exact zVe (ha.1 j) (hb.1 j)
 have e0:((a ^^^ b)+M) >>> 32 &&& O=O:=Nat.eq_of_beq_eq_true h;have e1:=congrArg (ln i) e0;have e2:ln i (((a ^^^ b)+M) >>> 32 &&& O)=(ln i ((a ^^^ b)+M)) >>> 32 &&& ln i O:=by
  have:=jP2 (X:=(a ^^^ b)+M) (Z:=(a ^^^ b)+M) (k1:=32) (k2:=32) (k3:=32) (j:=i) (M:=O) (by decide) (by decide) (by decide) (by have:=hO.wd i;omega);rwa [Nat.xor_self,Nat.zero_xor,Nat.xor_self,Nat.zero_xor]at this
 rw[e2,qFa (λj=>by have:=hx j;have:=hM.wd j;omega),zE2,ha.2,hb.2,hM.at_,hO.at_]at e1;rintro rfl;rw[Nat.xor_self]at e1;exact absurd e1 (by decide)
noncomputable def jSx (l:La)(s:List Sy)(ms:List (List Sy)):Bool:=
 sqB l.O λO=>sqB l.R λR=>sqB l.K λK=>sqB l.N λN=>sqB (Nat.mul O 4294967295) λM=>sqB (dgP O R K N M s) λa=>ms.all λt=>nqP O M a (dgP O R K N M t)
theorem zQd {l:La}(hl:l.Ok){s:List Sy}{ms:List (List Sy)}(hs:s.all Sy.ok=true)(hm:ms.all (λt=>t.all Sy.ok)=true)(h:jSx l s ms=true){r k m:Nat}(hx:(r,k,m)∈l){t:List Sy}(ht:t∈ms):jF (s.map (Sy.b r k m))≠jF (t.map (Sy.b r k m)):=by
 obtain⟨i,hi⟩:=getElem?_of_mem hx;have h3:=La.l3 hl;have hO:On i l.O:=⟨h3.o,(La.at_ hl hi).1⟩;unfold jSx at h;simp only[zMj]at h;exact zXu (jN8 (mkO hO) hO (jCr hl hi (mkO hO) hs) (jCr hl hi (mkO hO) (all_eq_true.1 hm t ht)) (all_eq_true.1 h t ht))
def sdN:List (List Nat):=[[176,41,252,86,177,62,228,100,37,156,221,147,140,70,196,222,157,252,185,110,72,101,69,93,18,222,16,172,59,181,179,64],[253,232,227,230,38,194,90,30,202,216,239,224,25,71,160,53,100,188,191,245,223,56,220,74,217,206,208,254,175,86,75,155],[199,25,130,183,17,72,43,247,169,239,225,190,120,18,155,84,137,193,143,58,32,87,239,171,211,211,115,99,211,112,150,145]]
def enN:List Nat:=[218,184,160,22,173,109,144,90,171,155,221,202,178,182,149,75,217,1,179,96,173,253,31,222,245,48,115,244,6,238,136,154]
def uB (l:List Nat):List UInt8:=l.map UInt8.ofNat
inductive Kd where
 |n
 |u
 |w
 deriving DecidableEq,Inhabited
def ixD (w:Bool)(d:List UInt8):Ix:=⟨1,2,48,8,[],[],w,d⟩
def Kd.ix (mc:Int):Kd->List Ix
 |.n=>[]
 |.u=>[ixD false (List.replicate 8 0)]
 |.w=>[ixD true (beI 8 mc 8)]
def ctA (o:Bool)(res mc:Int)(kd:Kd):Sa:=⟨sdN.map uB,[[],[],[],[]],uB enN,2,res,0,0,o,[],0,mc,kd.ix mc,⟨0,5,100,0,0,1000⟩,[]⟩
def z7S:List Sy:=List.replicate 7 (Sy.c 0)
def Kd.ixS (mc:Sy):Kd->List Sy
 |.n=>[Sy.c 0]
 |.u=>([1,1,2,48,0,8,0,0,0,0,0,0,8,0,0,0,0,0,0,0,0]:List Nat).map Sy.c
 |.w=>([1,1,2,48,0,8,1,0,0,0,0,0,8,0,0,0,0,0,0,0]:List Nat).map Sy.c++[mc]
def jOs:List Nat:=[1,2]++sdN.flatMap (λs=>0::32::s)++List.replicate 8 0++0::32::enN
def zVy (o:Nat)(res mc:Sy)(kd:Kd):List Sy:=
 jOs.map Sy.c++(z7S++res::List.replicate 16 (Sy.c 0))++(Sy.c o::Sy.c 0::Sy.c 9::List.replicate 9 (Sy.c 0))++(z7S++mc::kd.ixS mc)++([0,0,0,0,0,0,0,0,0,0,0,0,0,0,0,5,0,0,0,0,0,0,0,100,0,0,0,0,0,0,0,0,0,0,0,0,0,0,0,0,0,0,0,0,0,0,3,232,0]:List Nat).map Sy.c
theorem zAa {n:Nat}(h:n<256):beI 8 (n:Int) 8=[0,0,0,0,0,0,0,UInt8.ofNat n]:=by
 have e:m64 (n:Int)=n:=by unfold m64;omega
 unfold beI;rw[e];show [UInt8.ofNat (n/2^56),UInt8.ofNat (n/2^48),UInt8.ofNat (n/2^40),UInt8.ofNat (n/2^32),UInt8.ofNat (n/2^24),UInt8.ofNat (n/2^16),UInt8.ofNat (n/2^8),UInt8.ofNat (n/2^0)]=_;rw[Nat.div_eq_of_lt (b:=2^56) oM,Nat.div_eq_of_lt (b:=2^48) oM,Nat.div_eq_of_lt (b:=2^40) oM,Nat.div_eq_of_lt (b:=2^32) oM,Nat.div_eq_of_lt (b:=2^24) oM,Nat.div_eq_of_lt (b:=2^16) oM,Nat.div_eq_of_lt (b:=2^8) oM,Nat.pow_zero,Nat.div_one];rfl
theorem nB:(beI 8 0 8=[0,0,0,0,0,0,0,0]/\beI 8 5 8=[0,0,0,0,0,0,0,5]/\beI 8 100 8=[0,0,0,0,0,0,0,100]/\beI 8 1000 8=[0,0,0,0,0,0,3,232])/\(bY 0=0/\bY 1=1/\bY 2=2/\bY 48=48)/\beI 2 8 2=[0,8]/\beI 2 0 2=[0,0]/\beI 2 9 2=[0,9]/\qDn [] 0=[0,0,0,0,0,0,0,0,0]/\eA3 (ctA false 0 0 .n)=uB jOs:=by decide +kernel
def ixT (y:UInt8):Kd->List UInt8
 |.n=>[0]
 |.u=>[1,1,2,48,0,8,0,0,0,0,0,0,8,0,0,0,0,0,0,0,0]
 |.w=>[1,1,2,48,0,8,1,0,0,0,0,0,8,0,0,0,0,0,0,0,y]
theorem jM5 {b d:List UInt8}{w:Bool}(h:d.length=8):ixE b (ixD w d)=b++[1,2,48,0,8,bO w,0,0,0,0,0,8]++d:=by
 obtain⟨-,⟨-,y1,y2,y48⟩,m8,m0,-⟩:=nB;unfold ixE blL ixD;simp only[length_nil,h,Int.natCast_zero,y1,y2,y48,m0];show _++beI 2 8 2++_++_++_++_++_++beI 2 8 2++_=_;rw[m8];simp only[append_assoc,cons_append,nil_append]
theorem ixF {y:Nat}(h:y<256){b:List UInt8}{kd:Kd}:(kd.ix (y:Nat)).foldl ixE (b++[bY (kd.ix (y:Nat)).length])=b++ixT (UInt8.ofNat y) kd:=by
 obtain⟨-,⟨y0,y1,-⟩,-⟩:=nB;cases kd
 .show b++[bY 0]=b++[0];rw[y0]
 .show ixE (b++[bY 1]) _=_;rw[y1,jM5 sM];simp only[append_assoc,cons_append,nil_append,bO];rfl
 .show ixE (b++[bY 1]) _=_;rw[y1,jM5 (by simp[qLy]),zAa h];simp only[append_assoc,cons_append,nil_append,bO];rfl
theorem jUz {mc:Sy}{kd:Kd}{r k m:Nat}:(kd.ixS mc).map (Sy.b r k m)=ixT (mc.b r k m) kd:=by
 have hc:∀l:List Nat,(l.map Sy.c).map (Sy.b r k m)=uB l:=λl=>by
  rw[map_map];exact map_congr_left (λn _=>Sy.c_b)
 cases kd
 .show [Sy.b r k m (Sy.c 0)]=_;rw[Sy.c_b];rfl
 .exact(hc _).trans rfl
 .show((([1,1,2,48,0,8,1,0,0,0,0,0,8,0,0,0,0,0,0,0]:List Nat).map Sy.c)++[mc]).map (Sy.b r k m)=_;rw[map_append,hc,map_cons,map_nil];rfl
theorem jL2 {o:Bool}{res mc:Sy}{kd:Kd}{r k m:Nat}(h1:res.n r k m<256)(h2:mc.n r k m<256):qCs (ctA o (res.n r k m:Nat) (mc.n r k m:Nat) kd)=(zVy (if o then 1 else 0) res mc kd).map (Sy.b r k m):=by
 have e1:=zAa h1;have e2:=zAa h2;obtain⟨⟨n0,n5,n100,n1000⟩,⟨y0,-⟩,-,-,m9,h4,h3⟩:=nB;have b1:res.b r k m=UInt8.ofNat (res.n r k m):=rfl;have b2:mc.b r k m=UInt8.ofNat (mc.n r k m):=rfl;have hc:∀l:List Nat,(l.map Sy.c).map (Sy.b r k m)=uB l:=λl=>by
  rw[map_map];exact map_congr_left (λn _=>Sy.c_b)
 have hF:=λb=>ixF (b:=b) (kd:=kd) h2
 unfold zVy z7S;simp only[map_append,map_cons,map_replicate,Sy.c_b,hc,jUz,b1,b2];generalize res.n r k m=x at *;generalize mc.n r k m=y at *;have hA3:eA3 (ctA o (x:Int) (y:Nat) kd)=uB jOs:=by rw[<-h3];simp only[eA3,eA0,ctA]
 have hA5:eA5 (ctA o (x:Int) (y:Nat) kd)=uB jOs++[0,0,0,0,0,0,0,UInt8.ofNat x]++[0,0,0,0,0,0,0,0]++[0,0,0,0,0,0,0,0]++[bO o]++[0,9]++[0,0,0,0,0,0,0,0,0]:=by
  unfold eA5 eA4;rw[hA3];simp only[ctA,e1,n0,h4,blL];show _++beI 2 9 2++_=_;rw[m9]
 have hA7:eA7 (ctA o (x:Int) (y:Nat) kd)=eA5 (ctA o (x:Int) (y:Nat) kd)++[0,0,0,0,0,0,0,UInt8.ofNat y]++ixT (UInt8.ofNat y) kd:=by
  unfold eA7 eA6;rw[<-hF];simp only[ctA,e2]
 have hA9:qCs (ctA o (x:Int) (y:Nat) kd)=eA7 (ctA o (x:Int) (y:Nat) kd)++[0,0,0,0,0,0,0,0]++[0,0,0,0,0,0,0,5]++[0,0,0,0,0,0,0,100]++[0,0,0,0,0,0,0,0]++[0,0,0,0,0,0,0,0]++[0,0,0,0,0,0,3,232]++[0]:=by
  unfold qCs eA9 eA8;generalize hB:eA7 (ctA o (x:Int) (y:Nat) kd)=B;simp only[ctA,foldl_nil,length_nil,nuE,foldl_cons,Int.natCast_zero,n0,n5,n100,n1000,y0]
 rw[hA9,hA7,hA5];have z0:UInt8.ofNat 0=0:=rfl;have z9:UInt8.ofNat 9=9:=rfl;have zo:UInt8.ofNat (if o=true then 1 else 0)=bO o:=by cases o<;>rfl
 have z3:UInt8.ofNat 3=3:=rfl;have z5:UInt8.ofNat 5=5:=rfl;have z100:UInt8.ofNat 100=100:=rfl;have z232:UInt8.ofNat 232=232:=rfl;rw[zo];generalize uB jOs=P;generalize ixT _ kd=Q;have r7:List.replicate 7 (0:UInt8)=[0,0,0,0,0,0,0]:=rfl;have r9:List.replicate 9 (0:UInt8)=[0,0,0,0,0,0,0,0,0]:=rfl;have r16:List.replicate 16 (0:UInt8)=[0,0,0,0,0,0,0,0,0,0,0,0,0,0,0,0]:=rfl;have ub:uB []=[]:=rfl;simp only[ub,z0,z3,z5,z9,z100,z232,r7,r9,r16,append_assoc,cons_append,nil_append]
structure Kc where
 ko:Kd
 kn:Kd
 dr:Nat
 dm:Nat
 par:Nat
 lo:Nat
 lm:Nat
 jk:Bool:=false
 deriving Inhabited
def Kc.la (x:Kc):La:=(List.range 20).flatMap λr=>(List.range 21).flatMap λk=>((List.range 21).filter λm=>decide (m+x.lo<=k)&&decide (x.lm<=m)&&(k+m)%2==x.par).map λm=>(r+1,k,m)
def Kc.old (x:Kc):List Sy:=zVy 0 (0,1,0,0) (0,0,0,1) x.ko
def jkS:List Sy:=([0,0,0,0,0,0,0,0,0,0,0,0,0,0,0,0,0,3,232,0]:List Nat).map Sy.c
def Kc.oj (x:Kc):List Sy:=x.old++(if x.jk=true then jkS else [])
def Kc.new (x:Kc):List Sy:=zVy 0 (x.dr,1,0,0) (x.dm,0,0,1) x.kn
def Kc.sq (x:Kc):Sy:=(x.dr+1,1,1,0)
def zRn (q:Sy)(p:List Sy):List Sy:=([12,0,0,0,8,0,0,0,0,0,0,0].map Sy.c++[q]++[Sy.c 0,Sy.c 0,Sy.c (p.length/256),Sy.c (p.length%256)])++p
def qYw {α:Type}(a b:List α)(p:Nat):List α:=(a.take p++b.drop p).take a.length
def zW0 (a b:List Sy):List Nat:=0::((List.range 212).filter λp => !(a.getD p (0,0,0,0)==b.getD p (0,0,0,0))).map (· + 1)
def Kc.ms (x:Kc):List (List Sy):=
 (if x.old.length=x.new.length then [] else [x.old])++(if x.new.length<x.old.length then [x.old.take 4] else [])++
 (if x.oj.length<x.new.length then [] else(((zW0 x.new x.oj).filter λp=>decide (p<212)).map (qYw x.new x.oj)).filter λl => !(l==x.new))
noncomputable def Kc.chk (x:Kc)(j:Nat):Bool:=jSx x.la (zRn x.sq x.new) (((x.ms.drop (3*j)).take 3).map (zRn x.sq))
noncomputable def yC7:Bool:=jSx [(0,1,0)] (zRn (2,1,1,0) (zVy 0 (1,1,0,0) (0,0,0,1) .u)) [zRn (2,1,1,0) (zVy 1 (0,1,0,0) (0,0,0,1) .n)]
def mrk (n:Int)(p:List UInt8):List UInt8:=kX 12 [beI 8 n 8,p]
theorem jWa {l:List Nat}{r k m:Nat}:(l.map Sy.c).map (Sy.b r k m)=uB l:=by
 rw[map_map];exact map_congr_left (λn _=>Sy.c_b)
theorem zLb {q:Sy}{p:List Sy}{r k m:Nat}(hq:q.n r k m<256)(hp:p.length<65536):(zRn q p).map (Sy.b r k m)=zB 12 [beI 8 (q.n r k m:Nat) 8,p.map (Sy.b r k m)]:=by
 have bq:q.b r k m=UInt8.ofNat (q.n r k m):=rfl;unfold zRn zB;simp only[map_append,jWa,mcn,Sy.c_b,bq,zAa hq,flatMap_cons,flatMap_nil,append_nil];generalize UInt8.ofNat (q.n r k m)=z;have hl:zJ8 (p.map (Sy.b r k m)).length=[0,0,UInt8.ofNat (p.length/256),UInt8.ofNat (p.length%256)]:=by
  rw[length_map];unfold zJ8;have e1:UInt8.ofNat p.length=UInt8.ofNat (p.length%256):=by
   apply UInt8.toNat_inj.1;rw[UInt8.toNat_ofNat',UInt8.toNat_ofNat'];omega
  rw[Nat.div_eq_of_lt (b:=2^24) oM,Nat.div_eq_of_lt (b:=2^16) oM,e1];rfl
 have h8:zJ8 ([0,0,0,0,0,0,0,z]:List UInt8).length=[0,0,0,8]:=by
  show zJ8 8=_;decide
 have z8:UInt8.ofNat 8=8:=rfl;have z0:UInt8.ofNat 0=0:=rfl;have z12:UInt8.ofNat 12=12:=rfl;simp only[hl,h8,z0,z8,z12,cons_append,nil_append]
theorem zYq {α β:Type}{f:α->β}{a b:List α}{p:Nat}:(qYw a b p).map f=qYw (a.map f) (b.map f) p:=by
 unfold qYw;rw[map_take,map_append,map_take,map_drop,length_map]
theorem zLm {a b:List Sy}:∀{p:Nat},p<212->p<=a.length->p<=b.length->∃q∈zW0 a b,q<=p/\a.take p++b.drop p=a.take q++b.drop q
 |0,_,_,_=>⟨0,by simp[zW0],Nat.le_refl _,rfl⟩
 |p+1,h,ha,hb=>by
  by_cases c:a.getD p (0,0,0,0)=b.getD p (0,0,0,0)
  .obtain⟨q,h1,h2,h3⟩:=zLm (a:=a) (b:=b) (p:=p) oM oM oM;refine⟨q,h1,oM,?_⟩;rw[<-h3];have la:p<a.length:=oM;have lb:p<b.length:=oM;rw[getD_eq_getElem?_getD,getD_eq_getElem?_getD,getElem?_eq_getElem la,getElem?_eq_getElem lb]at c;simp only[Option.getD_some]at c;rw[take_succ_eq_append_getElem la,drop_eq_getElem_cons lb,c,append_assoc];rfl
  .refine⟨p+1,?_,Nat.le_refl _,rfl⟩;unfold zW0;rw[mem_cons,mem_map];refine .inr ⟨p,?_,rfl⟩;rw[mem_filter];exact⟨mem_range.2 oM,by simpa using c⟩
structure Kc.Good (x:Kc):Prop where
 la:x.la.Ok
 sy:(zRn x.sq x.new).all Sy.ok=true
 sm:x.ms.all (λt=>(zRn x.sq t).all Sy.ok)=true
 ck:∀j,3*j<x.ms.length->x.chk j=true
 ln:x.new.length<65536/\212<=x.new.length/\212<=x.old.length/\x.old.length<65536
 lj:212<=x.oj.length
theorem Kc.Good.ne {x:Kc}(g:x.Good){r k m:Nat}(h:(r,k,m)∈x.la){t:List Sy}(ht:t∈x.ms):jF ((zRn x.sq x.new).map (Sy.b r k m))≠jF ((zRn x.sq t).map (Sy.b r k m)):=by
 obtain⟨i,hi⟩:=getElem?_of_mem ht;have hl:i<x.ms.length:=(List.getElem?_eq_some_iff.1 hi).1;have hc:=g.ck (i/3) oM;unfold Kc.chk at hc;refine zQd g.la g.sy ?_ hc h (mem_map.2 ⟨t,?_,rfl⟩)
 .rw[all_map,all_eq_true];exact λy hy=>all_eq_true.1 g.sm y (mem_of_mem_drop (mem_of_mem_take hy))
 .apply mem_of_getElem? (i:=i%3);rw[getElem?_take,if_pos (Nat.mod_lt _ (by decide)),getElem?_drop,show 3*(i/3)+i%3=i by omega];exact hi
theorem Kc.Good.mr {x:Kc}(g:x.Good){r k m:Nat}(h:(r,k,m)∈x.la){t:List Sy}(ht:t∈x.ms)(hl:t.length<65536):mrk (x.sq.n r k m:Nat) (x.new.map (Sy.b r k m))≠mrk (x.sq.n r k m:Nat) (t.map (Sy.b r k m)):=by
 have hq:x.sq.n r k m<256:=by
  obtain⟨h1,h2,h3⟩:=g.la _ h;refine Sy.lt ?_ h1 h2 h3;have:=g.sy;unfold zRn at this;simp only[all_append,Bool.and_eq_true]at this;have h4:=this.1.1.2;simpa using h4
 have e:=g.ne h ht;rw[zLb hq g.ln.1,zLb hq hl]at e;exact e
theorem Kc.Good.torn {x:Kc}(g:x.Good){r k m:Nat}(h:(r,k,m)∈x.la) :
  (x.old.length≠x.new.length->mrk (x.sq.n r k m:Nat) (x.new.map (Sy.b r k m))≠mrk (x.sq.n r k m:Nat) (x.old.map (Sy.b r k m)))/\
  (x.new.length<x.old.length->mrk (x.sq.n r k m:Nat) (x.new.map (Sy.b r k m))≠mrk (x.sq.n r k m:Nat) ((x.old.map (Sy.b r k m)).take 4))/\
  ∀p,p<212->x.new.length<=x.oj.length->qYw (x.new.map (Sy.b r k m)) (x.oj.map (Sy.b r k m)) p=x.new.map (Sy.b r k m)\/mrk (x.sq.n r k m:Nat) (x.new.map (Sy.b r k m))≠mrk (x.sq.n r k m:Nat) (qYw (x.new.map (Sy.b r k m)) (x.oj.map (Sy.b r k m)) p):=by
 refine⟨λc=>?_,λc=>?_,λp hp c=>?_⟩
 .exact g.mr h (by unfold Kc.ms;rw[if_neg c];simp) g.ln.2.2.2
 .rw[<-map_take];refine g.mr h (by unfold Kc.ms;rw[if_pos c];simp) ?_;rw[length_take];omega
 .obtain⟨q,h1,h2,h3⟩:=zLm (a:=x.new) (b:=x.oj) hp (by have:=g.ln;omega) (by have:=g.lj;omega);have e:qYw x.new x.oj p=qYw x.new x.oj q:=by unfold qYw;rw[h3]
  rw[<-zYq,e];by_cases c2:qYw x.new x.oj q=x.new
  .left;rw[c2]
  .right;refine g.mr h ?_ ?_
   .unfold Kc.ms;rw[if_neg (by omega:¬ x.oj.length<x.new.length),mem_append];refine .inr (mem_filter.2 ⟨mem_map.2 ⟨q,mem_filter.2 ⟨h1,by simpa using(by omega:q<212)⟩,rfl⟩,by simpa using c2⟩)
   .unfold qYw;rw[length_take];have:=g.ln;omega
end Go.Eng
end
