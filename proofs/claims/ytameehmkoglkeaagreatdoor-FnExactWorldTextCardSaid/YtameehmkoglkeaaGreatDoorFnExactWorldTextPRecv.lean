/- What the plain forms that FnExactWorldText reaches come to: PRecv. No conditions but those that each theorem states. -/
import Derived.Test.YtameehmkoglkeaaGreatDoorFnExactWorldTextPWA
set_option linter.all false
namespace Go.Proofs.YtameehmkoglkeaaGreatDoor.M
open Go Go.Eng Go.Proofs
set_option linter.unusedVariables false
end Go.Proofs.YtameehmkoglkeaaGreatDoor.M
namespace Go.Proofs.YtameehmkoglkeaaGreatDoor.M
open Go Go.Eng Go.Proofs
set_option linter.unusedVariables false
def flat (r:Qp×List XM×Int):Int×Int×(List Qg)×(List Qb)×(List Int)×Int×Int×Int×(List Qn)×(List Int)×(List Int)×(List (List Int))×Int×Int×(List QY)×Int×Int×Int×(List Q2)×(List XM)×Int:=(r.1.1,r.1.2.1,r.1.2.2.1,r.1.2.2.2.1,r.1.2.2.2.2.1,r.1.2.2.2.2.2.1,r.1.2.2.2.2.2.2.1,r.1.2.2.2.2.2.2.2.1,r.1.2.2.2.2.2.2.2.2.1,r.1.2.2.2.2.2.2.2.2.2.1,r.1.2.2.2.2.2.2.2.2.2.2.1,r.1.2.2.2.2.2.2.2.2.2.2.2.1,r.1.2.2.2.2.2.2.2.2.2.2.2.2.1,r.1.2.2.2.2.2.2.2.2.2.2.2.2.2.1,r.1.2.2.2.2.2.2.2.2.2.2.2.2.2.2.1,r.1.2.2.2.2.2.2.2.2.2.2.2.2.2.2.2.1,r.1.2.2.2.2.2.2.2.2.2.2.2.2.2.2.2.2.1,r.1.2.2.2.2.2.2.2.2.2.2.2.2.2.2.2.2.2.1,r.1.2.2.2.2.2.2.2.2.2.2.2.2.2.2.2.2.2.2,r.2.1,r.2.2)
theorem QzV (m:XM) (h:Qil m):YH w (m.1,m.2.1,m.2.2.1,m.2.2.2.1,m.2.2.2.2.1,m.2.2.2.2.2.1,m.2.2.2.2.2.2.1,m.2.2.2.2.2.2.2.1,m.2.2.2.2.2.2.2.2.1,m.2.2.2.2.2.2.2.2.2.1,m.2.2.2.2.2.2.2.2.2.2.1,m.2.2.2.2.2.2.2.2.2.2.2)=some (Zb m):=QlK m.1 m.2.1 m.2.2.1 m.2.2.2.1 m.2.2.2.2.1 m.2.2.2.2.2.1 m.2.2.2.2.2.2.1 m.2.2.2.2.2.2.2.1 m.2.2.2.2.2.2.2.2.1 m.2.2.2.2.2.2.2.2.2.1 m.2.2.2.2.2.2.2.2.2.2.1 m.2.2.2.2.2.2.2.2.2.2.2 h
theorem Qy2 (m:XM) (h:Qil m):KL w (m.1,m.2.1,m.2.2.1,m.2.2.2.1,m.2.2.2.2.1,m.2.2.2.2.2.1,m.2.2.2.2.2.2.1,m.2.2.2.2.2.2.2.1,m.2.2.2.2.2.2.2.2.1,m.2.2.2.2.2.2.2.2.2.1,m.2.2.2.2.2.2.2.2.2.2.1,m.2.2.2.2.2.2.2.2.2.2.2)=some (Zb m):=Qj7 m.1 m.2.1 m.2.2.1 m.2.2.2.1 m.2.2.2.2.1 m.2.2.2.2.2.1 m.2.2.2.2.2.2.1 m.2.2.2.2.2.2.2.1 m.2.2.2.2.2.2.2.2.1 m.2.2.2.2.2.2.2.2.2.1 m.2.2.2.2.2.2.2.2.2.2.1 m.2.2.2.2.2.2.2.2.2.2.2 h
end Go.Proofs.YtameehmkoglkeaaGreatDoor.M
namespace Go.Proofs.YtameehmkoglkeaaGreatDoor.M
open Go Go.Eng Go.Proofs
set_option linter.unusedVariables false
def nums (l:List Int):List Int:=Qd (l.length:Nat)++l.flatMap Qd
theorem QlQ (l:List Int):(nums l).length<=5+l.length*5:=by
 have h:=Vc Qd 5 l fun x _=>Qw x
 have:=Qw (l.length:Nat)
 simp only[nums,QRj];omega
theorem Qio (l:List Int) (hl:l.length<=4294967296):VW w l=some (nums l):=by
 apply Qnt
 have hp:=Qw (l.length:Nat)
 have e:=Q3 l.length (fun i (o:List Int)=>KY wl (l,((l.length:Nat):Int),(i:Int),o)) (fun i o=>o++(l.drop i).flatMap Qd) (fun i o=>o.length<=5+i*5)
  (fun i hi o ho ih=>by
    apply QbQ
    have hb:=Qw l[i]
    have ih1:=ih (o++Qd l[i]) (by rw[QRj];omega)
    have ej: [o,Qd l[i]].flatten=o++Qd l[i]:=by simp
    have hj:=K1 [o,Qd l[i]] (by simp[maxLen]) (by rw[ej,QRj];omega)
    simp only[yy,ilt hi,Ql hi,Qi hi,inc hi (show l.length<=maxLen by simp[maxLen];omega),QQ1,YK,QQ0,hj,ej,ih1]
    rw[QRa hi,List.flatMap_cons,QRc])
  (fun o _=>by
    apply QbQ
    simp[yy])
  (Qd (l.length:Nat)) (by omega)
 simp only[QQ6,QRg]at e
 simp only[QfA,YK,QQ0,e,nums]
theorem Qid (l:List Int) (hl:l.length<=4294967296):VM w l=some (nums l):=by
 apply Qn7
 have hp:=Qw (l.length:Nat)
 have e:=Q3 l.length (fun i (o:List Int)=>KJ wl (l,(i:Int),o)) (fun i o=>o++(l.drop i).flatMap Qd) (fun i o=>o.length<=5+i*5)
  (fun i hi o ho ih=>by
    apply QbN
    have hb:=Qw l[i]
    have ih1:=ih (o++Qd l[i]) (by rw[QRj];omega)
    simp only[vi,ilt hi,Ql hi,Qi hi,inc hi (show l.length<=maxLen by simp[maxLen];omega),QQ1,Zw,QQ0,QF (show(o.length+(Qd l[i]).length)*1<=140737488351232 by omega),ih1]
    rw[QRa hi,List.flatMap_cons,QRc])
  (fun o _=>by
    apply QbN
    simp[vi])
  (Qd (l.length:Nat)) (by omega)
 simp only[QQ6,QRg]at e
 simp only[QeK,Zw,QQ0,e,nums]
def isB (l:List Int):Prop:=∀x∈l,0<=x/\x<256
theorem QR {a b:List Int}(h:isB a) (h':isB b):isB (a++b):=fun x hx=>by
 rcases QRh.1 hx with h1|h1
 ·exact h x h1
 ·exact h' x h1
theorem wrap_u8 (n:Int):0<=IntKind.wrap .u8 n/\IntKind.wrap .u8 n<256:=by
 rw[IntKind.wrap_u8];omega
theorem QsM:(f:Nat)->(n:Int)->(o:List Int)->isB o->isB (Xu f n o).2
 |0,n,o,h=>h
 |f+1,n,o,h=>by
  simp only[Xu]
  split
  ·refine QsM f _ _ (QR h fun x hx=> ?_)
   rw[List.mem_singleton.1 hx];exact wrap_u8 _
  ·exact h
theorem Xc (n:Int):isB (Qd n):=by
 unfold Qd
 cases inR n 0 2147483647
 ·intro x hx;simp at hx
 ·refine QR (QsM 4 n [] (fun x hx=>by simp at hx)) fun x hx=> ?_
  rw[List.mem_singleton.1 hx];exact wrap_u8 _
theorem Qfr {α:Type}(f:α->List Int) (h:∀x,isB (f x)) (l:List α):isB (l.flatMap f):=fun x hx=>by
 obtain⟨y,_,hy⟩:=List.mem_flatMap.1 hx
 exact h y x hy
theorem QlV (l:List Int):isB (nums l):=QR (Xc _) (Qfr _ Xc _)
theorem Qs6 (s:ByteArray):isB (ofBytes s):=fun x hx=>by
 simp only[ofBytes,List.mem_map]at hx
 obtain⟨b,_,rfl⟩:=hx
 have:=b.toNat_lt
 omega
theorem QwY (x:Qg):isB (X1 x):=QR (Xc _) (QR (Xc _) (QR (Xc _) (QR (Xc _) (QR (Xc _) (QR (Xc _) (Qs6 _))))))
theorem QiE (x:Qb):isB (Q5 x):=QR (Xc _) (Xc _)
theorem Quf (s:Qn):isB (stB s):=QR (Xc _) (QR (Qfr _ QwY _) (QR (Xc _) (Qfr _ QiE _)))
theorem Qml (x:Int) (h0:0<=x) (h1:x<4294967296):(BitVec.ofInt 64 x).toNat=x.toNat:=by
 rw[BitVec.toNat_ofInt]
 have:x % ((2^64:Nat):Int)=x:=Int.emod_eq_of_lt h0 (by omega)
 rw[this]
theorem Qpz (x y:Int) (hx:0<=x) (hx':x<4294967296) (hy:0<=y) (hy':y<4294967296):0<=bits .xor .i64 x y/\bits .xor .i64 x y<4294967296:=by
 have e:bits .xor .i64 x y=wR ((BitVec.ofInt 64 x^^^BitVec.ofInt 64 y).toNat:Nat):=rfl
 rw[e,BitVec.toNat_xor,Qml x hx hx',Qml y hy hy']
 have:=Nat.xor_lt_two_pow (n:=32) (x:=x.toNat) (y:=y.toNat) (by omega) (by omega)
 rw[w64 (by omega) (by omega)];omega
theorem Qtx (x:Int) (h:0<=x) (h':x<4294967296):0<=yj x/\yj x<4294967296:=by
 have hd:=Int.tdiv_eq_ediv_of_nonneg (b:=2) h
 unfold yj
 rw[w64 (by omega) (by omega)]
 split
 ·exact Qpz _ _ (by omega) (by omega) (by omega) (by omega)
 ·omega
theorem Qp1:(n:Nat)->(x:Int)->0<=x->x<4294967296->0<=J4 n x/\J4 n x<4294967296
 |0,x,h,h'=>⟨h,h'⟩
 |n+1,x,h,h'=>by
  have:=Qtx x h h'
  rw[J4];exact Qp1 n _ this.1 this.2
theorem Qx6 (s b:Int) (h:0<=s) (h':s<4294967296) (hb:0<=b) (hb':b<256):0<=Qim s b/\Qim s b<4294967296:=by
 rw[Qpq,w64 (by omega) (by omega)]
 have:=Qpz s b h h' hb (by omega)
 exact Qp1 8 _ this.1 this.2
theorem Qrg:(l:List Int)->(s:Int)->isB l->0<=s->s<4294967296->0<=l.foldl Qim s/\l.foldl Qim s<4294967296
 | [],s,_,h,h'=>⟨h,h'⟩
 |b::l,s,hl,h,h'=>by
  have hb:=hl b (by simp)
  have:=Qx6 s b h h' hb.1 hb.2
  rw[List.foldl_cons]
  exact Qrg l _ (fun x hx=>hl x (by simp[hx])) this.1 this.2
theorem QAk (l:List Int) (h:isB l):0<=crc l/\crc l<4294967296:=by
 have:=Qrg l 4294967295 h (by omega) (by omega)
 exact Qpz _ _ this.1 this.2 (by omega) (by omega)
def Kd (r:Int):List Int:=[IntKind.wrap .u8 (bits .and .i64 (yW .i64 r 24) 255),IntKind.wrap .u8 (bits .and .i64 (yW .i64 r 16) 255),IntKind.wrap .u8 (bits .and .i64 (yW .i64 r 8) 255),IntKind.wrap .u8 (bits .and .i64 r 255)]
theorem Qop (x:Int) (h:0<=x) (h':x<4294967296):bits .and .i64 x 255=x % 256:=by
 have e:bits .and .i64 x 255=wR ((BitVec.ofInt 64 x&&&BitVec.ofInt 64 255).toNat:Nat):=rfl
 rw[e,BitVec.toNat_and,Qml x h h',Qml 255 (by omega) (by omega)]
 have:x.toNat&&&(255:Int).toNat=x.toNat % 256:=Nat.and_two_pow_sub_one_eq_mod x.toNat 8
 rw[this,w64 (by omega) (by omega)];omega
theorem QrZ (x:Int) (n:Nat) (m:Int) (hm:(2:Int)^n=m) (hn:n<=64):yW .i64 x (n:Int)=Int.fdiv x m:=by
 unfold yW
 rw[QRb,Nat.min_eq_left (show n<=IntKind.bits .i64 from hn),hm]
theorem QAf (r:Int) (h:0<=r) (h':r<4294967296):Kd r=[IntKind.wrap .u8 (wR (Int.tdiv r 16777216)),IntKind.wrap .u8 (Int.tmod (wR (Int.tdiv r 65536)) 256),IntKind.wrap .u8 (Int.tmod (wR (Int.tdiv r 256)) 256),IntKind.wrap .u8 (Int.tmod r 256)]:=by
 unfold Kd
 have s1:yW .i64 r 24=r / 16777216:=by rw[show(24:Int)=((24:Nat):Int)from rfl,QrZ r 24 16777216 (by decide) (by omega),Int.fdiv_eq_ediv_of_nonneg _ (by omega)]
 have s2:yW .i64 r 16=r / 65536:=by rw[show(16:Int)=((16:Nat):Int)from rfl,QrZ r 16 65536 (by decide) (by omega),Int.fdiv_eq_ediv_of_nonneg _ (by omega)]
 have s3:yW .i64 r 8=r / 256:=by rw[show(8:Int)=((8:Nat):Int)from rfl,QrZ r 8 256 (by decide) (by omega),Int.fdiv_eq_ediv_of_nonneg _ (by omega)]
 have d1:=Int.tdiv_eq_ediv_of_nonneg (b:=16777216) h
 have d2:=Int.tdiv_eq_ediv_of_nonneg (b:=65536) h
 have d3:=Int.tdiv_eq_ediv_of_nonneg (b:=256) h
 rw[s1,s2,s3,d1,d2,d3,Qop _ (by omega) (by omega),Qop _ (by omega) (by omega),Qop _ (by omega) (by omega),Qop _ (by omega) (by omega)]
 rw[w64 (n:=r / 16777216) (by omega) (by omega),w64 (n:=r / 65536) (by omega) (by omega),w64 (n:=r / 256) (by omega) (by omega)]
 rw[Int.tmod_eq_emod_of_nonneg (a:=r / 65536) (by omega),Int.tmod_eq_emod_of_nonneg (a:=r / 256) (by omega),Int.tmod_eq_emod_of_nonneg (a:=r) (by omega)]
 have:r / 16777216 % 256=r / 16777216:=Int.emod_eq_of_lt (by omega) (by omega)
 rw[this]
theorem QtL (l:List Int) (h:l.length<=maxLen):zq w l=some (Kd (crc l)):=by
 apply QlA
 simp only[Qc4,Qnb l h,QQ0,dt (show(0:Int)<=24 by omega),dt (show(0:Int)<=16 by omega),dt (show(0:Int)<=8 by omega),QQ1,Kd]
theorem Qqq (l:List Int) (h:l.length<=maxLen) (hb:isB l):xN w l=some (Kd (crc l)):=by
 apply QoY
 have:=QAk l hb
 simp only[Qgf,Qkk l h,QQ0,dt (show(16777216:Int)≠0 by omega),dt (show(65536:Int)≠0 by omega),dt (show(256:Int)≠0 by omega),QQ1,QAf _ this.1 this.2]
def YM (a0:Int) (a1:Int) (a2:Int) (a3:Int) (a4:Int) (a5:List Int) (a6:Int) (a7:List Int) (a8:List Int) (a9:List Qg) (a10:List Qb) (a11:List Qb):List Int:=[82,75]++(Qd a0++(Qd a1++(Qd a2++(Qd a3++(Qd a4++(nums a5++(Qd a6++(nums a7++(nums a8++(Qd ((stB (a9,a10)).length:Nat)++(stB (a9,a10)++Qd (a11.length:Nat))))))))))))
def Xy (a0:Int) (a1:Int) (a2:Int) (a3:Int) (a4:Int) (a5:List Int) (a6:Int) (a7:List Int) (a8:List Int) (a9:List Qg) (a10:List Qb) (a11:List Qb):List Int:=YM a0 a1 a2 a3 a4 a5 a6 a7 a8 a9 a10 a11++a11.flatMap Q5
def zO (a0:Int) (a1:Int) (a2:Int) (a3:Int) (a4:Int) (a5:List Int) (a6:Int) (a7:List Int) (a8:List Int) (a9:List Qg) (a10:List Qb) (a11:List Qb):List Int:=bif J1 a0 a1 a2 a3 a4 a5 a6 a7 a8 a9 a10 a11 then Xy a0 a1 a2 a3 a4 a5 a6 a7 a8 a9 a10 a11++Kd (crc (Xy a0 a1 a2 a3 a4 a5 a6 a7 a8 a9 a10 a11))else []
theorem QaI (a0:Int) (a1:Int) (a2:Int) (a3:Int) (a4:Int) (a5:List Int) (a6:Int) (a7:List Int) (a8:List Int) (a9:List Qg) (a10:List Qb) (a11:List Qb) (h:J1 a0 a1 a2 a3 a4 a5 a6 a7 a8 a9 a10 a11=true):a5.length<=4/\a7.length<=5/\a8.length<=4/\Q0 (a9,a10)=true/\a11.length<=5:=by
 simp only[J1,QQ5]at h
 obtain⟨⟨⟨⟨⟨⟨⟨⟨⟨⟨⟨_,_⟩,_⟩,_⟩,hl⟩,_⟩,_⟩,_⟩,ht⟩,h7⟩,hs⟩,hm⟩:=h
 have h8:=QoH _ _ hl (by omega)
 have h11:=jW _ _ hm (by omega)
 refine⟨?_,by simp at h7;omega, ?_,hs, ?_⟩
 ·unfold qL at ht
  cases h0:decide (((a5.length:Nat):Int)=0)
  ·rw[h0]at ht
   simp at ht;omega
  ·simp at h0;rw[h0];simp
 ·rcases h8 with h|h
  ·omega
  ·rw[h];simp
 ·rcases h11 with h|h
  ·omega
  ·rw[h];simp
theorem Qln (a0:Int) (a1:Int) (a2:Int) (a3:Int) (a4:Int) (a5:List Int) (a6:Int) (a7:List Int) (a8:List Int) (a9:List Qg) (a10:List Qb) (a11:List Qb) (h:J1 a0 a1 a2 a3 a4 a5 a6 a7 a8 a9 a10 a11=true):(YM a0 a1 a2 a3 a4 a5 a6 a7 a8 a9 a10 a11).length<=3000000:=by
 obtain⟨h5,h7,h8,hs,h11⟩:=QaI a0 a1 a2 a3 a4 a5 a6 a7 a8 a9 a10 a11 h
 have l0:=Qw a0
 have l1:=Qw a1
 have l2:=Qw a2
 have l3:=Qw a3
 have l4:=Qw a4
 have l5:=QlQ a5
 have l6:=Qw a6
 have l7:=QlQ a7
 have l8:=QlQ a8
 have l9:=Qw ((stB (a9,a10)).length:Nat)
 have l10:=Qkx (qy hs)
 have l11:=Qw (a11.length:Nat)
 simp only[YM,QRj,List.length_cons,List.length_nil];omega
theorem Qla (a0:Int) (a1:Int) (a2:Int) (a3:Int) (a4:Int) (a5:List Int) (a6:Int) (a7:List Int) (a8:List Int) (a9:List Qg) (a10:List Qb) (a11:List Qb):isB (YM a0 a1 a2 a3 a4 a5 a6 a7 a8 a9 a10 a11):=by
 unfold YM
 refine QR (fun x hx=> ?_) (QR (Xc _) (QR (Xc _) (QR (Xc _) (QR (Xc _) (QR (Xc _) (QR (QlV _) (QR (Xc _) (QR (QlV _) (QR (QlV _) (QR (Xc _) (QR (Quf _) (Xc _))))))))))))
 simp at hx;omega
theorem QqW (b:List Qb) (hb:b.length<=1000) (o:List Int) (ho:o.length<=3000000):
 Zi wl (b,((b.length:Nat):Int),0,o)=some (o++b.flatMap Q5):=by
 have e:=Q3 b.length (fun i (o:List Int)=>Zi wl (b,((b.length:Nat):Int),(i:Int),o)) (fun i o=>o++(b.drop i).flatMap Q5) (fun i o=>o.length<=3000000+i*10)
  (fun i hi o ho ih=>by
    apply Qag
    have hb:=V6 b[i]
    have ih1:=ih (o++Q5 b[i]) (by rw[QRj];omega)
    have ej: [o,Qd b[i].1,Qd b[i].2].flatten=o++Q5 b[i]:=by simp[Q5]
    have hj:=K1 [o,Qd b[i].1,Qd b[i].2] (by simp[maxLen]) (by rw[ej,QRj];omega)
    simp only[zF,ilt hi,Ql hi,Qi hi,inc hi (show b.length<=maxLen by simp[maxLen];omega),QQ1,YK,QQ0,hj,ej,ih1]
    rw[QRa hi,List.flatMap_cons,QRc])
  (fun o _=>by
    apply Qag
    simp[zF])
  o (by omega)
 simpa using e
theorem Qto (a0:Int) (a1:Int) (a2:Int) (a3:Int) (a4:Int) (a5:List Int) (a6:Int) (a7:List Int) (a8:List Int) (a9:List Qg) (a10:List Qb) (a11:List Qb) (h:smM a5 a7 a8 a9 a10 a11):zr w (a0,a1,a2,a3,a4,a5,a6,a7,a8,a9,a10,a11)=some (zO a0 a1 a2 a3 a4 a5 a6 a7 a8 a9 a10 a11):=by
 apply Ql2
 simp only[Qc8,QlK a0 a1 a2 a3 a4 a5 a6 a7 a8 a9 a10 a11 h,QQ0,zO]
 obtain⟨h5,h7,h8,h9,h10,h11⟩:=h
 cases hm:J1 a0 a1 a2 a3 a4 a5 a6 a7 a8 a9 a10 a11
 ·simp
 obtain⟨m5,m7,m8,hs,m11⟩:=QaI a0 a1 a2 a3 a4 a5 a6 a7 a8 a9 a10 a11 hm
 have hl:=Qln a0 a1 a2 a3 a4 a5 a6 a7 a8 a9 a10 a11 hm
 have ej: [[82,75],Qd a0,Qd a1,Qd a2,Qd a3,Qd a4,nums a5,Qd a6,nums a7,nums a8,Qd ((stB (a9,a10)).length:Nat),stB (a9,a10),Qd (a11.length:Nat)].flatten=YM a0 a1 a2 a3 a4 a5 a6 a7 a8 a9 a10 a11:=by
  simp only[QRr,List.flatten_nil,List.append_nil,YM]
 have hj:=K1 [[82,75],Qd a0,Qd a1,Qd a2,Qd a3,Qd a4,nums a5,Qd a6,nums a7,nums a8,Qd ((stB (a9,a10)).length:Nat),stB (a9,a10),Qd (a11.length:Nat)] (by simp[maxLen]) (by rw[ej];omega)
 have hfl:=Vc Q5 10 a11 fun x _=>V6 x
 have hbl:(Xy a0 a1 a2 a3 a4 a5 a6 a7 a8 a9 a10 a11).length<=3000050:=by simp only[Xy,QRj];omega
 have hc:=QtL (Xy a0 a1 a2 a3 a4 a5 a6 a7 a8 a9 a10 a11) (by simp only[maxLen];omega)
 have ek: [Xy a0 a1 a2 a3 a4 a5 a6 a7 a8 a9 a10 a11,Kd (crc (Xy a0 a1 a2 a3 a4 a5 a6 a7 a8 a9 a10 a11))].flatten=Xy a0 a1 a2 a3 a4 a5 a6 a7 a8 a9 a10 a11++Kd (crc (Xy a0 a1 a2 a3 a4 a5 a6 a7 a8 a9 a10 a11)):=by simp
 have hk:=K1 [Xy a0 a1 a2 a3 a4 a5 a6 a7 a8 a9 a10 a11,Kd (crc (Xy a0 a1 a2 a3 a4 a5 a6 a7 a8 a9 a10 a11))] (by simp[maxLen]) (by rw[ek,QRj];simp only[Kd,List.length_cons,List.length_nil];omega)
 have hloop:Zi wl (a11,((a11.length:Nat):Int),0,YM a0 a1 a2 a3 a4 a5 a6 a7 a8 a9 a10 a11)=some (Xy a0 a1 a2 a3 a4 a5 a6 a7 a8 a9 a10 a11):=QqW a11 (by omega) _ hl
 simp only[QQ3,QQ2,QQ1,QcO a9 a10 h9 h10,hs,YK,Qio a5 (by omega),Qio a7 (by omega),Qio a8 (by omega),QQ0,hj,ej,hloop,hc,hk,ek]
theorem Qrs (a0:Int) (a1:Int) (a2:Int) (a3:Int) (a4:Int) (a5:List Int) (a6:Int) (a7:List Int) (a8:List Int) (a9:List Qg) (a10:List Qb) (a11:List Qb) (o l:List Int) (hl:l.length<=5) (ho:o.length<=10):
 Z5 wl (0,a0,a1,a2,a3,a4,a5,a6,a7,a8,a9,a10,a11,o,l)=some (a0,a1,a2,a3,a4,a5,a6,a7,a8,a9,a10,a11,o++l.flatMap Qd):=by
 have e:=Q3 l.length (fun k (o:List Int)=>Z5 wl ((k:Int),a0,a1,a2,a3,a4,a5,a6,a7,a8,a9,a10,a11,o,l)) (fun k o=>(a0,a1,a2,a3,a4,a5,a6,a7,a8,a9,a10,a11,o++(l.drop k).flatMap Qd)) (fun k o=>o.length<=10+k*5)
  (fun k hk o ho ih=>by
    apply QcF
    have hb:=Qw l[k]
    have ih1:=ih (o++Qd l[k]) (by rw[QRj];omega)
    simp only[jx,ilt hk,Ql hk,Qi hk,inc hk (show l.length<=maxLen by simp[maxLen];omega),QQ1,Zw,QQ0,QF (show(o.length+(Qd l[k]).length)*1<=140737488351232 by omega),ih1]
    rw[QRa hk,List.flatMap_cons,QRc])
  (fun o _=>by
    apply QcF
    simp[jx])
  o (by omega)
 simpa using e
theorem QqS (a0:Int) (a1:Int) (a2:Int) (a3:Int) (a4:Int) (a5:List Int) (a6:Int) (a7:List Int) (a8:List Int) (a9:List Qg) (a10:List Qb) (a11:List Qb) (hb:a11.length<=1000) (o:List Int) (ho:o.length<=3000000):
 Ys wl (0,a0,a1,a2,a3,a4,a5,a6,a7,a8,a9,a10,a11,o)=some (o++a11.flatMap Q5):=by
 have e:=Q3 a11.length (fun i (o:List Int)=>Ys wl ((i:Int),a0,a1,a2,a3,a4,a5,a6,a7,a8,a9,a10,a11,o)) (fun i o=>o++(a11.drop i).flatMap Q5) (fun i o=>o.length<=3000000+i*10)
  (fun i hi o ho ih=>by
    apply Qcc
    have hb:=V6 a11[i]
    have h1:=Qw a11[i].1
    have h2:=Qw a11[i].2
    have ih1:=ih (o++Q5 a11[i]) (by rw[QRj];omega)
    have ej:o++Qd a11[i].1++Qd a11[i].2=o++Q5 a11[i]:=by simp[Q5]
    simp only[yI,ilt hi,Ql hi,Qi hi,inc hi (show a11.length<=maxLen by simp[maxLen];omega),QQ1,Zw,QQ0,QF (show(o.length+(Qd a11[i].1).length)*1<=140737488351232 by omega),QF (show((o++Qd a11[i].1).length+(Qd a11[i].2).length)*1<=140737488351232 by rw[QRj];omega),ej,ih1]
    rw[QRa hi,List.flatMap_cons,QRc])
  (fun o _=>by
    apply Qcc
    simp[yI])
  o (by omega)
 simpa using e
theorem Qrk (a0:Int) (a1:Int) (a2:Int) (a3:Int) (a4:Int) (a5:List Int) (a6:Int) (a7:List Int) (a8:List Int) (a9:List Qg) (a10:List Qb) (a11:List Qb) (h:smM a5 a7 a8 a9 a10 a11):zp w (a0,a1,a2,a3,a4,a5,a6,a7,a8,a9,a10,a11)=some (zO a0 a1 a2 a3 a4 a5 a6 a7 a8 a9 a10 a11):=by
 apply Qlu
 simp only[Qdb,Qj7 a0 a1 a2 a3 a4 a5 a6 a7 a8 a9 a10 a11 h,QQ0,zO]
 obtain⟨h5,h7,h8,h9,h10,h11⟩:=h
 cases hm:J1 a0 a1 a2 a3 a4 a5 a6 a7 a8 a9 a10 a11
 ·simp
 obtain⟨m5,m7,m8,hs,m11⟩:=QaI a0 a1 a2 a3 a4 a5 a6 a7 a8 a9 a10 a11 hm
 have hl:=Qln a0 a1 a2 a3 a4 a5 a6 a7 a8 a9 a10 a11 hm
 have hfl:=Vc Q5 10 a11 fun x _=>V6 x
 have hbl:(Xy a0 a1 a2 a3 a4 a5 a6 a7 a8 a9 a10 a11).length<=3000050:=by simp only[Xy,QRj];omega
 have hbody:vY w (a0,a1,a2,a3,a4,a5,a6,a7,a8,a9,a10,a11)=some (Xy a0 a1 a2 a3 a4 a5 a6 a7 a8 a9 a10 a11):=by
  apply QnO
  have e0: [82,75]++[a0,a1,a2,a3,a4].flatMap Qd=[82,75]++(Qd a0++(Qd a1++(Qd a2++(Qd a3++Qd a4)))):=by simp
  have hn:=Qrs a0 a1 a2 a3 a4 a5 a6 a7 a8 a9 a10 a11 [82,75] [a0,a1,a2,a3,a4] (by simp) (by simp)
  rw[e0]at hn
  have hh:=hl
  simp only[YM,QRj]at hh
  have hend:((((((([82,75]++(Qd a0++(Qd a1++(Qd a2++(Qd a3++Qd a4))))++nums a5)++Qd a6)++nums a7)++nums a8)++Qd ((stB (a9,a10)).length:Nat))++stB (a9,a10))++Qd (a11.length:Nat))=YM a0 a1 a2 a3 a4 a5 a6 a7 a8 a9 a10 a11:=by simp only[YM,QRc]
  simp only[Qee,hn,Qid a5 (by omega),Qid a7 (by omega),Qid a8 (by omega),Zw,Qjt a9 a10 (qy hs),QQ0]
  iterate 7 refine(Qxb (QF (by simp only[QRj];omega))).trans ?_
  rw[hend,QqS a0 a1 a2 a3 a4 a5 a6 a7 a8 a9 a10 a11 (by omega) _ hl]
  rfl
 have hB:isB (Xy a0 a1 a2 a3 a4 a5 a6 a7 a8 a9 a10 a11):=QR (Qla a0 a1 a2 a3 a4 a5 a6 a7 a8 a9 a10 a11) (Qfr _ QiE _)
 have hc:=Qqq (Xy a0 a1 a2 a3 a4 a5 a6 a7 a8 a9 a10 a11) (by simp only[maxLen];omega) hB
 simp only[QQ3,QQ2,hbody,QQ0,hc,QQ1]
 exact Qxb (QF (by simp only[Kd,List.length_cons,List.length_nil];omega))
end Go.Proofs.YtameehmkoglkeaaGreatDoor.M
namespace Go.Proofs.YtameehmkoglkeaaGreatDoor.M
open Go Go.Eng Go.Proofs
set_option linter.unusedVariables false
def zJ:Nat->Nat->Int->List Int->Option (Int×Nat)
 |0,_,_,_=>none
 |_+1,_,_,[]=>none
 |f+1,i,acc,c::l=>if 128<=c then zJ f (i+1) (acc+(c % 128)*128^i) l
  else if(0<i/\c=0)\/2147483647<acc+(c % 128)*128^i then none else some (acc+(c % 128)*128^i,i+1)
def Qsf (k:Int):Option (Int×Nat)->Int×Int×Bool
 |none=>(0,0,false)
 |some r=>(r.1,k+(r.2:Nat),true)
def Xr (b:List Int) (k:Int):Int×Int×Bool:=if 0<=k/\k<(b.length:Int)then Qsf k (zJ 5 0 0 (b.drop k.toNat))else(0,0,false)
def elN (z:(Int×Int×Bool)⊕Unit):Option (Int×Int×Bool):=Qo z (fun u=>some u) (fun _=>some (0,0,false))
theorem i5 {i:Nat}(h:i<5):i=0\/i=1\/i=2\/i=3\/i=4:=by omega
theorem Qh8 (c:Int) (h0:0<=c) (h1:c<256) (i:Nat) (hi:i<5):zz .i64 (Int.tmod c 128) (7*(i:Int))=(c % 128)*128^i:=by
 have e:Int.tmod c 128=c % 128:=Int.tmod_eq_emod_of_nonneg h0
 rw[zz,e]
 rcases i5 hi with rfl|rfl|rfl|rfl|rfl
 ·rw[show(2:Int)^min (7*((0:Nat):Int)).toNat (IntKind.bits .i64)=1 from rfl];exact(w64 (by omega) (by omega)).trans (by omega)
 ·rw[show(2:Int)^min (7*((1:Nat):Int)).toNat (IntKind.bits .i64)=128 from rfl];exact(w64 (by omega) (by omega)).trans (by omega)
 ·rw[show(2:Int)^min (7*((2:Nat):Int)).toNat (IntKind.bits .i64)=16384 from rfl];exact(w64 (by omega) (by omega)).trans (by omega)
 ·rw[show(2:Int)^min (7*((3:Nat):Int)).toNat (IntKind.bits .i64)=2097152 from rfl];exact(w64 (by omega) (by omega)).trans (by omega)
 ·rw[show(2:Int)^min (7*((4:Nat):Int)).toNat (IntKind.bits .i64)=268435456 from rfl];exact(w64 (by omega) (by omega)).trans (by omega)
theorem Qsp (i:Nat) (hi:i<5):(0:Int)<128^i/\(128:Int)^i<=268435456/\(128:Int)^(i+1)=128^i*128:=by
 refine⟨?_, ?_,Int.pow_succ 128 i⟩
 ·rcases i5 hi with rfl|rfl|rfl|rfl|rfl<;>decide
 ·rcases i5 hi with rfl|rfl|rfl|rfl|rfl<;>decide
theorem dmul {c p:Int}(h0:0<=c) (h1:c<256) (hp:0<p):0<=(c % 128)*p/\(c % 128)*p<=127*p:=by
 have h2:0<=c % 128:=by omega
 have h3:c % 128<=127:=by omega
 exact⟨Int.mul_nonneg h2 (by omega),Int.mul_le_mul_of_nonneg_right h3 (by omega)⟩
theorem Qut (x:Int) (h0:0<=x) (h1:x<9223372036854775808):(BitVec.ofInt 64 x).toNat=x.toNat:=by
 rw[BitVec.toNat_ofInt]
 omega
theorem or_eq (acc c:Int) (i:Nat) (hi:i<5) (h0:0<=acc) (h1:acc<128^i) (hc0:0<=c) (hc1:c<256):bits .or .i64 acc ((c % 128)*128^i)=acc+(c % 128)*128^i:=by
 have hp:=Qsp i hi
 have hd:=dmul hc0 hc1 hp.1
 unfold bits
 simp only
 show wR (((BitVec.ofInt 64 acc|||BitVec.ofInt 64 ((c % 128)*128^i)).toNat:Nat):Int)=_
 rw[BitVec.toNat_or,Qut _ h0 (by omega),Qut _ hd.1 (by omega)]
 obtain⟨d,hdd⟩:∃d:Nat,c % 128=(d:Int):=⟨(c % 128).toNat,by omega⟩
 obtain⟨a,ha⟩:∃a:Nat,acc=(a:Int):=⟨acc.toNat,by omega⟩
 rw[hdd]at hd⊢
 rw[ha]at h1⊢
 have e128:((128:Int)^i)=(((2:Nat)^(7*i):Nat):Int):=by
  rw[Nat.pow_mul];simp
 rw[e128]at h1 hd⊢
 have h1':a<2^(7*i):=by exact_mod_cast h1
 have e3:((d:Int)*((2^(7*i):Nat):Int)).toNat=d<<<(7*i):=by
  rw[Nat.shiftLeft_eq,<-Int.natCast_mul,QRb]
 rw[e3,QRb,Nat.or_comm,<-Nat.shiftLeft_add_eq_or_of_lt h1' d,Nat.shiftLeft_eq]
 have e4:(((d*2^(7*i)+a:Nat)):Int)=(a:Int)+(d:Int)*((2^(7*i):Nat):Int):=by
  rw[Int.natCast_add,Int.natCast_mul];omega
 rw[e4]
 have hp':((2^(7*i):Nat):Int)<=268435456:=by rw[<-e128];exact hp.2.1
 have h1'':(a:Int)<((2^(7*i):Nat):Int):=by exact_mod_cast h1'
 exact w64 (by omega) (by omega)
theorem QtO (b:List Int) (hb:isB b) (hl:b.length<=4294967296) (k:Nat) (hkb:k<=b.length):(f i:Nat)->(acc:Int)->f+i=5->0<=acc->acc<128^i->(Xo wl (b,(k:Int),acc,(i:Int))).bind elN=some (Qsf (k:Int) (zJ f i acc (b.drop (k+i)))):=by
 intro f
 induction f with
 |zero=>
  intro i acc hi h0 h1
  have:Xo wl (b,(k:Int),acc,(i:Int))=some (.inr ()):=by
   apply Yy
   simp only[YQ,df (show¬(i:Int)<5 by omega),QQ2]
  rw[this];rfl
 |succ f ih=>
  intro i acc hi h0 h1
  have hi5:i<5:=by omega
  have hp:=Qsp i hi5
  by_cases hk:k+i<b.length
  ·have hc:=hb _ (QRf hk)
   have hd:=dmul hc.1 hc.2 hp.1
   rw[QRa hk]
   have hr:rd1 (0:Int) b ((k:Int)+(i:Int))=b[k+i]:=by rw[show(k:Int)+(i:Int)=((k+i:Nat):Int) by omega];exact Qi hk
   have hin:inb ((k:Int)+(i:Int)) b.length=true:=by rw[show(k:Int)+(i:Int)=((k+i:Nat):Int) by omega];exact Ql hk
   by_cases h128:128<=b[k+i]
   ·have ih2:=ih (i+1) (acc+(b[k+i] % 128)*128^i) (by omega) (by omega) (by rw[hp.2.2];omega)
    have:Xo wl (b,(k:Int),acc,(i:Int))=Xo wl (b,(k:Int),acc+(b[k+i] % 128)*128^i,((i+1:Nat):Int)):=by
     cases hv:Xo wl (b,(k:Int),acc+(b[k+i] % 128)*128^i,((i+1:Nat):Int))with
     |none=>rw[hv]at ih2;cases ih2
     |some v=>
      apply Yy
      simp only[YQ,dt (show(i:Int)<5 by omega),w64 (n:=(k:Int)+(i:Int)) (by omega) (by omega),dt (show(k:Int)+(i:Int)<(b.length:Int) by omega),hin,hr,w64 (n:=b[k+i]) (by omega) (by omega),w64 (n:=7*(i:Int)) (by omega) (by omega),dt (show(128:Int)≠0 by omega),dt (show(0:Int)<=7*(i:Int) by omega),dt h128,Qh8 _ hc.1 hc.2 i hi5,w64 (n:=acc+(b[k+i] % 128)*128^i) (by omega) (by omega),w64 (n:=(i:Int)+1) (by omega) (by omega),QQ1]
      exact hv
    rw[this,zJ,if_pos h128]
    exact ih2
   ·rw[zJ,if_neg h128]
    by_cases hz:(0<i/\b[k+i]=0)\/2147483647<acc+(b[k+i] % 128)*128^i
    ·rw[if_pos hz]
     have:Xo wl (b,(k:Int),acc,(i:Int))=some (.inl (0,0,false)):=by
      apply Yy
      simp only[YQ,dt (show(i:Int)<5 by omega),w64 (n:=(k:Int)+(i:Int)) (by omega) (by omega),dt (show(k:Int)+(i:Int)<(b.length:Int) by omega),hin,hr,w64 (n:=b[k+i]) (by omega) (by omega),w64 (n:=7*(i:Int)) (by omega) (by omega),dt (show(128:Int)≠0 by omega),dt (show(0:Int)<=7*(i:Int) by omega),df h128,Qh8 _ hc.1 hc.2 i hi5,w64 (n:=acc+(b[k+i] % 128)*128^i) (by omega) (by omega),QQ1,QQ2]
      by_cases hi0:0<i
      ·rw[dt (show(0:Int)<(i:Int) by omega)]
       by_cases hc0:b[k+i]=0
       ·rw[dt hc0];rfl
       ·rw[df hc0,dt (show 2147483647<acc+(b[k+i] % 128)*128^i by rcases hz with h|h;exact absurd h.2 hc0;exact h)];rfl
      ·rw[df (show¬(0:Int)<(i:Int) by omega),dt (show 2147483647<acc+(b[k+i] % 128)*128^i by rcases hz with h|h;exact absurd h.1 hi0;exact h)];rfl
     rw[this];rfl
    ·rw[if_neg hz]
     have hn:¬2147483647<acc+(b[k+i] % 128)*128^i:=fun h=>hz (.inr h)
     have:Xo wl (b,(k:Int),acc,(i:Int))=some (.inl (acc+(b[k+i] % 128)*128^i,(k:Int)+(i:Int)+1,true)):=by
      apply Yy
      simp only[YQ,dt (show(i:Int)<5 by omega),w64 (n:=(k:Int)+(i:Int)) (by omega) (by omega),dt (show(k:Int)+(i:Int)<(b.length:Int) by omega),hin,hr,w64 (n:=b[k+i]) (by omega) (by omega),w64 (n:=7*(i:Int)) (by omega) (by omega),dt (show(128:Int)≠0 by omega),dt (show(0:Int)<=7*(i:Int) by omega),df h128,Qh8 _ hc.1 hc.2 i hi5,w64 (n:=acc+(b[k+i] % 128)*128^i) (by omega) (by omega),w64 (n:=(k:Int)+(i:Int)+1) (by omega) (by omega),df hn,QQ1,QQ2]
      by_cases hi0:0<i
      ·rw[dt (show(0:Int)<(i:Int) by omega),df (show¬b[k+i]=0 from fun h=>hz (.inl ⟨hi0,h⟩))];rfl
      ·rw[df (show¬(0:Int)<(i:Int) by omega)];rfl
     rw[this]
     show some (acc+(b[k+i] % 128)*128^i,(k:Int)+(i:Int)+1,true)=some (acc+(b[k+i] % 128)*128^i,(k:Int)+((i+1:Nat):Int),true)
     rw[show(k:Int)+(i:Int)+1=(k:Int)+((i+1:Nat):Int) by omega]
  ·have:Xo wl (b,(k:Int),acc,(i:Int))=some (.inr ()):=by
    apply Yy
    simp only[YQ,dt (show(i:Int)<5 by omega),w64 (n:=(k:Int)+(i:Int)) (by omega) (by omega),df (show¬(k:Int)+(i:Int)<(b.length:Int) by omega),QQ1,QQ2]
   rw[this,List.drop_of_length_le (by omega)];rfl
theorem Qr6 (b:List Int) (hb:isB b) (hl:b.length<=4294967296) (k:Nat) (hkb:k<=b.length):(f i:Nat)->(acc:Int)->f+i=5->0<=acc->acc<128^i->(Xn wl (b,(k:Int),acc,(i:Int))).bind elN=some (Qsf (k:Int) (zJ f i acc (b.drop (k+i)))):=by
 intro f
 induction f with
 |zero=>
  intro i acc hi h0 h1
  have:Xn wl (b,(k:Int),acc,(i:Int))=some (.inr ()):=by
   apply Yv
   simp only[YO,df (show¬(i:Int)<5 by omega),QQ2]
  rw[this];rfl
 |succ f ih=>
  intro i acc hi h0 h1
  have hi5:i<5:=by omega
  have hp:=Qsp i hi5
  by_cases hk:k+i<b.length
  ·have hc:=hb _ (QRf hk)
   have hd:=dmul hc.1 hc.2 hp.1
   rw[QRa hk]
   have hr:rd1 (0:Int) b ((k:Int)+(i:Int))=b[k+i]:=by rw[show(k:Int)+(i:Int)=((k+i:Nat):Int) by omega];exact Qi hk
   have hin:inb ((k:Int)+(i:Int)) b.length=true:=by rw[show(k:Int)+(i:Int)=((k+i:Nat):Int) by omega];exact Ql hk
   by_cases h128:128<=b[k+i]
   ·have ih2:=ih (i+1) (acc+(b[k+i] % 128)*128^i) (by omega) (by omega) (by rw[hp.2.2];omega)
    have:Xn wl (b,(k:Int),acc,(i:Int))=Xn wl (b,(k:Int),acc+(b[k+i] % 128)*128^i,((i+1:Nat):Int)):=by
     cases hv:Xn wl (b,(k:Int),acc+(b[k+i] % 128)*128^i,((i+1:Nat):Int))with
     |none=>rw[hv]at ih2;cases ih2
     |some v=>
      apply Yv
      simp only[YO,dt (show(i:Int)<5 by omega),df (show¬(k:Int)<0 by omega),w64 (n:=(b.length:Int) - (i:Int)) (by omega) (by omega),df (show¬(b.length:Int) - (i:Int)<=(k:Int) by omega),w64 (n:=(k:Int)+(i:Int)) (by omega) (by omega),hin,hr,w64 (n:=b[k+i]) (by omega) (by omega),w64 (n:=7*(i:Int)) (by omega) (by omega),dt (show(128:Int)≠0 by omega),dt (show(0:Int)<=7*(i:Int) by omega),df (show¬b[k+i]<128 by omega),Qh8 _ hc.1 hc.2 i hi5,or_eq acc _ i hi5 h0 h1 hc.1 hc.2,w64 (n:=(i:Int)+1) (by omega) (by omega),QQ1,QQ2]
      exact hv
    rw[this,zJ,if_pos h128]
    exact ih2
   ·rw[zJ,if_neg h128]
    by_cases hz:(0<i/\b[k+i]=0)\/2147483647<acc+(b[k+i] % 128)*128^i
    ·rw[if_pos hz]
     have:Xn wl (b,(k:Int),acc,(i:Int))=some (.inl (0,0,false)):=by
      apply Yv
      simp only[YO,dt (show(i:Int)<5 by omega),df (show¬(k:Int)<0 by omega),w64 (n:=(b.length:Int) - (i:Int)) (by omega) (by omega),df (show¬(b.length:Int) - (i:Int)<=(k:Int) by omega),w64 (n:=(k:Int)+(i:Int)) (by omega) (by omega),hin,hr,w64 (n:=b[k+i]) (by omega) (by omega),w64 (n:=7*(i:Int)) (by omega) (by omega),dt (show(128:Int)≠0 by omega),dt (show(0:Int)<=7*(i:Int) by omega),dt (show b[k+i]<128 by omega),Qh8 _ hc.1 hc.2 i hi5,or_eq acc _ i hi5 h0 h1 hc.1 hc.2,QQ1,QQ2]
      by_cases hi0:0<i
      ·rw[dt (show(0:Int)<(i:Int) by omega)]
       by_cases hc0:b[k+i]=0
       ·rw[dt hc0];rfl
       ·rw[df hc0,dt (show 2147483647<acc+(b[k+i] % 128)*128^i by rcases hz with h|h;exact absurd h.2 hc0;exact h)];rfl
      ·rw[df (show¬(0:Int)<(i:Int) by omega),dt (show 2147483647<acc+(b[k+i] % 128)*128^i by rcases hz with h|h;exact absurd h.1 hi0;exact h)];rfl
     rw[this];rfl
    ·rw[if_neg hz]
     have hn:¬2147483647<acc+(b[k+i] % 128)*128^i:=fun h=>hz (.inr h)
     have:Xn wl (b,(k:Int),acc,(i:Int))=some (.inl (acc+(b[k+i] % 128)*128^i,(k:Int)+(i:Int)+1,true)):=by
      apply Yv
      simp only[YO,dt (show(i:Int)<5 by omega),df (show¬(k:Int)<0 by omega),w64 (n:=(b.length:Int) - (i:Int)) (by omega) (by omega),df (show¬(b.length:Int) - (i:Int)<=(k:Int) by omega),w64 (n:=(k:Int)+(i:Int)) (by omega) (by omega),hin,hr,w64 (n:=b[k+i]) (by omega) (by omega),w64 (n:=7*(i:Int)) (by omega) (by omega),dt (show(128:Int)≠0 by omega),dt (show(0:Int)<=7*(i:Int) by omega),dt (show b[k+i]<128 by omega),Qh8 _ hc.1 hc.2 i hi5,or_eq acc _ i hi5 h0 h1 hc.1 hc.2,w64 (n:=(k:Int)+(i:Int)+1) (by omega) (by omega),df hn,QQ1,QQ2]
      by_cases hi0:0<i
      ·rw[dt (show(0:Int)<(i:Int) by omega),df (show¬b[k+i]=0 from fun h=>hz (.inl ⟨hi0,h⟩))];rfl
      ·rw[df (show¬(0:Int)<(i:Int) by omega)];rfl
     rw[this]
     show some (acc+(b[k+i] % 128)*128^i,(k:Int)+(i:Int)+1,true)=some (acc+(b[k+i] % 128)*128^i,(k:Int)+((i+1:Nat):Int),true)
     rw[show(k:Int)+(i:Int)+1=(k:Int)+((i+1:Nat):Int) by omega]
  ·have:Xn wl (b,(k:Int),acc,(i:Int))=some (.inl (0,0,false)):=by
    apply Yv
    simp only[YO,dt (show(i:Int)<5 by omega),df (show¬(k:Int)<0 by omega),w64 (n:=(b.length:Int) - (i:Int)) (by omega) (by omega),dt (show(b.length:Int) - (i:Int)<=(k:Int) by omega),QQ1,QQ2]
   rw[this,List.drop_of_length_le (by omega)];rfl
theorem Qql (b:List Int) (hb:isB b) (hl:b.length<=4294967296) (k:Nat) (hk:k<=b.length):xP w (b,(k:Int))=some (Xr b (k:Int)):=by
 apply Qpp
 simp only[Qf0,Xr,df (show¬(k:Int)<0 by omega),QQ2]
 by_cases h:k<b.length
 ·have e:=QtO b hb hl k hk 5 0 0 rfl (by omega) (by decide)
  rw[df (show¬(b.length:Int)<=(k:Int) by omega),if_pos (by omega)]
  exact e
 ·rw[dt (show(b.length:Int)<=(k:Int) by omega),if_neg (by omega)];rfl
theorem QnR (b:List Int) (hb:isB b) (hl:b.length<=4294967296) (k:Nat) (hk:k<=b.length):xR w (b,(k:Int))=some (Xr b (k:Int)):=by
 apply QoX
 have e:=Qr6 b hb hl k hk 5 0 0 rfl (by omega) (by decide)
 simp only[Qgp,Xr]
 by_cases h:k<b.length
 ·rw[if_pos (by omega)];exact e
 ·rw[if_neg (by omega)]
  rw[List.drop_of_length_le (by omega)]at e
  exact e
theorem Qsb:(f i:Nat)->(acc:Int)->(l:List Int)->0<=acc->isB l->i+f<=5->∀r,zJ f i acc l=some r->0<=r.1/\r.1<=2147483647/\r.2<=i+l.length
 |0,_,_,_,_,_,_,r,h=>by cases h
 |f+1,i,acc,[],_,_,_,r,h=>by cases h
 |f+1,i,acc,c::l,h0,hb,hi,r,h=>by
  have hc:=hb c (by simp)
  have hp:=Qsp i (by omega)
  have hd:=dmul hc.1 hc.2 hp.1
  rw[zJ]at h
  split at h
  ·have:=Qsb f (i+1) _ l (by omega) (fun x hx=>hb x (by simp[hx])) (by omega) r h
   simp only[List.length_cons];omega
  ·split at h
   ·cases h
   ·rename_i hz
    obtain rfl:=Option.some.inj h
    simp only[List.length_cons]
    refine⟨by omega, ?_,by omega⟩
    have:¬2147483647<acc+(c % 128)*128^i:=fun h=>hz (.inr h)
    omega
end Go.Proofs.YtameehmkoglkeaaGreatDoor.M
namespace Go.Proofs.YtameehmkoglkeaaGreatDoor.M
open Go Go.Eng Go.Proofs
set_option linter.unusedVariables false
structure Bs (b:List Int):Prop where
 isb:isB b
 len:b.length<=4294967296
def Pos (b:List Int) (p:Int):Prop:=∃k:Nat,p=(k:Int)/\k<=b.length
theorem Pos.at0 (b:List Int):Pos b 0:=⟨0,rfl,Nat.zero_le _⟩
def rnum (b:List Int) (p:Int) (bad:Bool):Int×Int×Bool:=bif bad then(0,p,true)else(bif (Xr b p).2.2 then((Xr b p).1,(Xr b p).2.1,false)else(0,p,true))
theorem Qyo {b:List Int}(h:isB b) (k:Nat):isB (b.drop k):=fun x hx=>h x (List.mem_of_mem_drop hx)
theorem QiI {b:List Int}(h:Bs b) {p:Int}(hp:Pos b p) (ho:(Xr b p).2.2=true):Pos b (Xr b p).2.1/\0<=(Xr b p).1/\(Xr b p).1<=2147483647:=by
 obtain⟨k,rfl,hk⟩:=hp
 unfold Xr at ho⊢
 by_cases hc:0<=(k:Int)/\(k:Int)<(b.length:Int)
 ·rw[if_pos hc]at ho⊢
  cases hn:zJ 5 0 0 (b.drop (k:Int).toNat)with
  |none=>rw[hn]at ho;cases ho
  |some r=>
   have:=Qsb 5 0 0 _ (by omega) (Qyo h.isb _) (by omega) r hn
   rw[List.length_drop,QRb]at this
   exact⟨⟨k+r.2,by simp[Qsf],by omega⟩,this.1,this.2.1⟩
 ·rw[if_neg hc]at ho;cases ho
theorem QE {b:List Int}(h:Bs b) {p:Int}(hp:Pos b p) (bad:Bool):Pos b (rnum b p bad).2.1/\0<=(rnum b p bad).1/\(rnum b p bad).1<=2147483647:=by
 unfold rnum
 cases bad
 ·cases ho:(Xr b p).2.2
  ·exact⟨hp,by simp⟩
  ·exact QiI h hp ho
 ·exact⟨hp,by simp⟩
theorem Qew {b:List Int}(h:Bs b) {p:Int}(hp:Pos b p) (bad:Bool):Qu w (b,p,bad)=some (rnum b p bad):=by
 obtain⟨k,rfl,hk⟩:=hp
 apply Qjr
 simp only[Qaj,Qql b h.isb h.len k hk,QQ0,rnum]
 cases bad<;>cases(Xr b (k:Int)).2.2<;>rfl
theorem QdT {b:List Int}(h:Bs b) {p:Int}(hp:Pos b p) (bad:Bool):QP w (b,p,bad)=some (rnum b p bad):=by
 obtain⟨k,rfl,hk⟩:=hp
 apply Qow
 simp only[QfW,QnR b h.isb h.len k hk,QQ0,rnum]
 cases bad<;>cases(Xr b (k:Int)).2.2<;>rfl
def X4 (b:List Int) (p:Int):ByteArray×Int×Bool:=bif (Xr b p).2.2 then(bif decide ((b.length:Int) - (Xr b p).2.1<(Xr b p).1)then(⟨#[]⟩,0,false)else(QA (List.take (Xr b p).1.toNat (List.drop (Xr b p).2.1.toNat b)),(Xr b p).2.1+(Xr b p).1,true))else(⟨#[]⟩,0,false)
theorem Qsu {b:List Int}(h:Bs b) {p:Int}(hp:Pos b p) (ho:(X4 b p).2.2=true):Pos b (X4 b p).2.1:=by
 unfold X4 at ho⊢
 cases hg:(Xr b p).2.2
 ·rw[hg]at ho;cases ho
 ·rw[hg]at ho
  obtain⟨⟨k,e,hk⟩,h0,h1⟩:=QiI h hp hg
  by_cases hl:(b.length:Int) - (Xr b p).2.1<(Xr b p).1
  ·rw[dt hl]at ho;cases ho
  ·rw[df hl]
   exact⟨k+(Xr b p).1.toNat,by simp only[QQ1,QQ2];omega,by omega⟩
theorem QuC {b:List Int}(h:Bs b) {p:Int}(hp:Pos b p):yF w (b,p)=some (X4 b p):=by
 have hb:=h.len
 have hq:=fun ho=>QiI h hp ho
 obtain⟨k,rfl,hk⟩:=hp
 apply Qoq
 simp only[QdY,Qql b h.isb h.len k hk,QQ0,X4]
 cases hg:(Xr b (k:Int)).2.2
 ·rfl
 ·obtain⟨⟨q,e,hq2⟩,h0,h1⟩:=hq hg
  rw[e,w64 (n:=(b.length:Int) - (q:Int)) (by omega) (by omega),w64 (n:=(q:Int)+(Xr b (k:Int)).1) (by omega) (by omega)]
  by_cases hl:(b.length:Int) - (q:Int)<(Xr b (k:Int)).1
  ·rw[dt hl];rfl
  ·rw[df hl]
   simp only[QQ3,QQ1,QQ2,dt (show(0:Int)<=(q:Int)/\(q:Int)<=(q:Int)+(Xr b (k:Int)).1/\(q:Int)+(Xr b (k:Int)).1<=(b.length:Int) by omega)]
   rw[show(q:Int)+(Xr b (k:Int)).1 - (q:Int)=(Xr b (k:Int)).1 by omega]
theorem QtM {b:List Int}(h:Bs b) {p:Int}(hp:Pos b p):vG w (b,p)=some (X4 b p):=by
 have hb:=h.len
 have hq:=fun ho=>QiI h hp ho
 obtain⟨k,rfl,hk⟩:=hp
 apply Qn5
 simp only[Qez,QnR b h.isb h.len k hk,QQ0,X4]
 cases hg:(Xr b (k:Int)).2.2
 ·rfl
 ·obtain⟨⟨q,e,hq2⟩,h0,h1⟩:=hq hg
  rw[e,w64 (n:=(b.length:Int) - (q:Int)) (by omega) (by omega),w64 (n:=(q:Int)+(Xr b (k:Int)).1) (by omega) (by omega)]
  by_cases hl:(b.length:Int) - (q:Int)<(Xr b (k:Int)).1
  ·rw[dt hl];rfl
  ·rw[df hl]
   simp only[QQ3,QQ1,QQ2,dt (show(0:Int)<=(q:Int)/\(q:Int)<=(q:Int)+(Xr b (k:Int)).1/\(q:Int)+(Xr b (k:Int)).1<=(b.length:Int) by omega)]
   rw[show(q:Int)+(Xr b (k:Int)).1 - (q:Int)=(Xr b (k:Int)).1 by omega]
def rtext (b:List Int) (p:Int) (bad:Bool):ByteArray×Int×Bool:=bif bad then(⟨#[]⟩,p,true)else(bif (X4 b p).2.2 then((X4 b p).1,(X4 b p).2.1,false)else(⟨#[]⟩,p,true))
theorem Qwp {b:List Int}(h:Bs b) {p:Int}(hp:Pos b p) (bad:Bool):Pos b (rtext b p bad).2.1:=by
 unfold rtext
 cases bad
 ·cases ho:(X4 b p).2.2
  ·exact hp
  ·exact Qsu h hp ho
 ·exact hp
theorem QzU {b:List Int}(h:Bs b) {p:Int}(hp:Pos b p) (bad:Bool):YT w (b,p,bad)=some (rtext b p bad):=by
 apply Qjj
 simp only[vu,QuC h hp,QQ0,rtext]
 cases bad<;>cases(X4 b p).2.2<;>rfl
def rcount (b:List Int) (p:Int) (bad:Bool) (most:Int):Int×Int×Bool:=bif decide (most<(rnum b p bad).1)then(0,(rnum b p bad).2.1,true)else rnum b p bad
theorem QiF {b:List Int}(h:Bs b) {p:Int}(hp:Pos b p) (bad:Bool) (most:Int):X2 w (b,p,bad,most)=some (rcount b p bad most):=by
 apply Qik
 simp only[yg,Qew h hp,QQ0,rcount]
 cases decide (most<(rnum b p bad).1)<;>rfl
theorem yp {b:List Int}(h:Bs b) {p:Int}(hp:Pos b p) (bad:Bool) {most:Int}(hm:0<=most):Pos b (rcount b p bad most).2.1/\0<=(rcount b p bad most).1/\(rcount b p bad most).1<=most:=by
 have hr:=QE h hp bad
 unfold rcount
 by_cases hl:most<(rnum b p bad).1
 ·rw[dt hl];exact⟨hr.1,by simp only[QQ1];omega,hm⟩
 ·rw[df hl];exact⟨hr.1,hr.2.1,by simp only[QQ2];omega⟩
def V1 (b:List Int):Nat->Int->Bool->List Int×Int×Bool
 |0,p,bad=>([],p,bad)
 |m+1,p,bad=>((rnum b p bad).1::(V1 b m (rnum b p bad).2.1 (rnum b p bad).2.2).1,(V1 b m (rnum b p bad).2.1 (rnum b p bad).2.2).2)
theorem Qmv {b:List Int}(h:Bs b):(m:Nat)->(p:Int)->(bad:Bool)->Pos b p->Pos b (V1 b m p bad).2.1/\(V1 b m p bad).1.length=m
 |0,p,bad,hp=>⟨hp,rfl⟩
 |m+1,p,bad,hp=>by
  have:=Qmv h m _ (rnum b p bad).2.2 (QE h hp bad).1
  exact⟨this.1,by simp only[V1,List.length_cons,this.2]⟩
theorem QwA {b:List Int}(h:Bs b) (c:Nat) (hc:c<=5):(m i:Nat)->(p:Int)->(bad:Bool)->(out:List Int)->i+m=c->out.length=i->Pos b p->ZL wl ((c:Int),(i:Int),b,p,bad,out)=some (b,(V1 b m p bad).2.1,(V1 b m p bad).2.2,out++(V1 b m p bad).1):=by
 intro m
 induction m with
 |zero=>
  intro i p bad out hi ho hp
  apply xQ
  simp only[JO,df (show¬(i:Int)<(c:Int) by omega),QQ2,V1,List.append_nil]
 |succ m ih=>
  intro i p bad out hi ho hp
  apply xQ
  simp only[JO,dt (show(i:Int)<(c:Int) by omega),Qew h hp,QQ0,w64 (n:=(i:Int)+1) (by omega) (by omega),QQ1]
  rw[QF (by simp;omega),QQ1]
  have:=ih (i+1) _ (rnum b p bad).2.2 (out++[(rnum b p bad).1]) (by omega) (by simp[ho]) (QE h hp bad).1
  rw[show(i:Int)+1=((i+1:Nat):Int) by omega,this]
  simp only[V1,QRc,QRv,QRe]
def rnums (b:List Int) (p:Int) (bad:Bool) (most:Int):List Int×Int×Bool:=V1 b (rcount b p bad most).1.toNat (rcount b p bad most).2.1 (rcount b p bad most).2.2
theorem Qpx {b:List Int}(h:Bs b) {p:Int}(hp:Pos b p) (bad:Bool) (most:Int) (h0:0<=most) (h5:most<=5):XH w (b,p,bad,most)=some (rnums b p bad most):=by
 have hr:=yp h hp bad h0
 obtain⟨c,hc⟩:∃c:Nat,(rcount b p bad most).1=(c:Int):=⟨(rcount b p bad most).1.toNat,by omega⟩
 have e:=QwA h c (by omega) c 0 (rcount b p bad most).2.1 (rcount b p bad most).2.2 [] (by omega) rfl hr.1
 apply Qjk
 simp only[yU,QiF h hp,QQ0,rnums,hc,QRb]
 simp only[QQ6,QRe]at e
 simp only[e,QQ0]
theorem yl {b:List Int}(h:Bs b) {p:Int}(hp:Pos b p) (bad:Bool) {most:Int}(h0:0<=most):Pos b (rnums b p bad most).2.1/\(((rnums b p bad most).1.length:Nat):Int)<=most:=by
 have hr:=yp h hp bad h0
 have:=Qmv h (rcount b p bad most).1.toNat (rcount b p bad most).2.1 (rcount b p bad most).2.2 hr.1
 exact⟨this.1,by unfold rnums;omega⟩
def K0 (b:List Int):Nat->Int->Bool->List Int×Int×Bool
 |0,p,bad=>([],p,bad)
 |m+1,p,bad=>bif bad then([],p,bad)else((rnum b p bad).1::(K0 b m (rnum b p bad).2.1 (rnum b p bad).2.2).1,(K0 b m (rnum b p bad).2.1 (rnum b p bad).2.2).2)
theorem Qmk {b:List Int}(h:Bs b):(m:Nat)->(p:Int)->(bad:Bool)->Pos b p->Pos b (K0 b m p bad).2.1/\(K0 b m p bad).1.length<=m
 |0,p,bad,hp=>⟨hp,Nat.le_refl _⟩
 |m+1,p,bad,hp=>by
  have:=Qmk h m _ (rnum b p bad).2.2 (QE h hp bad).1
  rw[K0]
  cases bad
  ·exact⟨this.1,by simp only[QQ2,List.length_cons];omega⟩
  ·exact⟨hp,by simp⟩
theorem QwB {b:List Int}(h:Bs b) (t n:Nat) (ht:t<=2) (hn:n<=100):(m i:Nat)->(p:Int)->(bad:Bool)->(out:List Int)->i+m=n*t->out.length=i->Pos b p->Yg wl ((t:Int),(n:Int),(i:Int),b,p,bad,out)=some ((n:Int),b,(K0 b m p bad).2.1,(K0 b m p bad).2.2,out++(K0 b m p bad).1):=by
 intro m
 have hnt:n*t<=200:=Nat.le_trans (Nat.mul_le_mul hn ht) (by decide)
 have e0:(n:Int)*(t:Int)=((n*t:Nat):Int):=by rw[Int.natCast_mul]
 induction m with
 |zero=>
  intro i p bad out hi ho hp
  apply qS
  simp only[J0,e0,w64 (n:=((n*t:Nat):Int)) (by omega) (by omega),df (show¬(i:Int)<((n*t:Nat):Int) by omega),QQ2,K0,List.append_nil]
 |succ m ih=>
  intro i p bad out hi ho hp
  apply qS
  simp only[J0,e0,w64 (n:=((n*t:Nat):Int)) (by omega) (by omega),dt (show(i:Int)<((n*t:Nat):Int) by omega),dt (show(n:Int)<=100 by omega),QdT h hp,QQ0,w64 (n:=(i:Int)+1) (by omega) (by omega),QQ1]
  rw[QF (by simp;omega),QQ1,K0]
  cases bad
  ·have:=ih (i+1) _ (rnum b p false).2.2 (out++[(rnum b p false).1]) (by omega) (by simp[ho]) (QE h hp false).1
   rw[show(i:Int)+1=((i+1:Nat):Int) by omega,this]
   simp only[QQ4,QQ1,QQ2,QRc,QRv,QRe]
  ·simp only[QQ3,QQ2,QQ1,List.append_nil]
def rmany (b:List Int) (p:Int) (bad:Bool) (t:Nat):List Int×Int×Bool:=bif decide (100<(rnum b p bad).1)then([],(rnum b p bad).2.1,true)else K0 b ((rnum b p bad).1.toNat*t) (rnum b p bad).2.1 (rnum b p bad).2.2
theorem Qr0 {b:List Int}{p:Int}{bad:Bool}(h:(rnum b p bad).2.2=true):(rnum b p bad).1=0:=by
 unfold rnum at h⊢
 cases bad
 ·cases hg:(Xr b p).2.2
  ·rfl
  ·rw[hg]at h;cases h
 ·rfl
theorem Qhx {b:List Int}(h:Bs b) {p:Int}(hp:Pos b p) (bad:Bool) (t:Nat) (ht:t<=2) (ht0:1<=t):Xv w (b,p,bad,(t:Int))=some (rmany b p bad t):=by
 have hr:=QE h hp bad
 obtain⟨n,hn⟩:∃n:Nat,(rnum b p bad).1=(n:Int):=⟨(rnum b p bad).1.toNat,by omega⟩
 apply Qnk
 simp only[QeU,QdT h hp,QQ0,rmany,hn,QRb]
 by_cases h100:(100:Int)<(n:Int)
 ·rw[dt h100]
  have hb:(rnum b p bad).2.2=false:=by
   cases hb:(rnum b p bad).2.2
   ·rfl
   ·have:=Qr0 hb;omega
  have e0:(n:Int)*(t:Int)=((n*t:Nat):Int):=by rw[Int.natCast_mul]
  have hnt:n*t<=2147483647*2:=Nat.mul_le_mul (by omega) ht
  have hnt2:0<n*t:=Nat.mul_pos (by omega) ht0
  have:Yg wl ((t:Int),(n:Int),0,b,(rnum b p bad).2.1,(rnum b p bad).2.2,[])=some ((n:Int),b,(rnum b p bad).2.1,(rnum b p bad).2.2,[]):=by
   apply qS
   simp only[J0,e0,w64 (n:=((n*t:Nat):Int)) (by omega) (by omega),dt (show(0:Int)<((n*t:Nat):Int) by omega),df (show¬(n:Int)<=100 by omega),hb,QQ4,QQ1,QQ2]
  rw[this,hb]
  simp only[QQ0,QQ2,QQ1,dt h100]
 ·rw[df h100]
  have e:=QwB h t n ht (by omega) (n*t) 0 (rnum b p bad).2.1 (rnum b p bad).2.2 [] (by omega) rfl hr.1
  simp only[QQ6,QRe]at e
  simp only[e,QQ0,QQ2,df h100]
  cases hv:(K0 b (n*t) (rnum b p bad).2.1 (rnum b p bad).2.2).2.2<;>simp only[QQ1,QQ2]<;>rw[<-hv]
theorem QbA {b:List Int}(h:Bs b) {p:Int}(hp:Pos b p) (bad:Bool) (t:Nat) (ht:t<=2):Pos b (rmany b p bad t).2.1/\(rmany b p bad t).1.length<=200:=by
 have hr:=QE h hp bad
 unfold rmany
 by_cases h100:100<(rnum b p bad).1
 ·rw[dt h100];exact⟨hr.1,by simp⟩
 ·rw[df h100]
  have:=Qmk h ((rnum b p bad).1.toNat*t) (rnum b p bad).2.1 (rnum b p bad).2.2 hr.1
  have hm:(rnum b p bad).1.toNat*t<=100*2:=Nat.mul_le_mul (by omega) ht
  exact⟨this.1,by simp only[QQ2];omega⟩
end Go.Proofs.YtameehmkoglkeaaGreatDoor.M
namespace Go.Proofs.YtameehmkoglkeaaGreatDoor.M
open Go Go.Eng Go.Proofs
set_option linter.unusedVariables false
theorem QlS:(f:Nat)->(n:Int)->(o:List Int)->Xu f n o=((Xu f n []).1,o++(Xu f n []).2)
 |0,n,o=>by simp[Xu]
 |f+1,n,o=>by
  simp only[Xu]
  split
  ·rw[QlS f _ (o++[QaP n]),QlS f _ ([]++[QaP n])];simp
  ·simp
theorem QzL {n:Int}(h:0<=n) (h2:n<=2147483647):QaP n=n % 128+128:=by
 unfold QaP
 rw[Int.tmod_eq_emod_of_nonneg h,w64 (by omega) (by omega),IntKind.wrap_u8]
 omega
theorem Qrx (l:List Int):(f:Nat)->(n:Int)->(i:Nat)->(acc:Int)->0<=n->n<128^(f+1)->(0<i->0<n)->0<=acc->acc+n*128^i<=2147483647->i+f<=4->zJ (f+1) i acc ((Xu f n []).2++([IntKind.wrap .u8 (Xu f n []).1]++l))=some (acc+n*128^i,i+(Xu f n []).2.length+1)
 |0,n,i,acc,h0,h1,hi,ha,hm,hf=>by
  have h1':n<128:=h1
  have e:IntKind.wrap .u8 n=n:=by rw[IntKind.wrap_u8];omega
  simp only[Xu,QRe,List.singleton_append,e,List.length_nil,Nat.add_zero]
  rw[zJ,if_neg (by omega),show n % 128=n by omega,if_neg]
  intro h
  rcases h with h|h
  ·have:=hi h.1;omega
  ·omega
 |f+1,n,i,acc,h0,h1,hi,ha,hm,hf=>by
  have hp:=Qsp i (by omega)
  have hpos:0<=n*128^i:=Int.mul_nonneg h0 (by omega)
  have hn:n<=2147483647:=by
   have:n*1<=n*128^i:=Int.mul_le_mul_of_nonneg_left (by omega) h0
   omega
  by_cases h128:128<=n
  ·have e1:Xu (f+1) n []=((Xu f (Int.tdiv n 128) []).1,QaP n::(Xu f (Int.tdiv n 128) []).2):=by
    simp only[Xu,h128,if_true,QRe]
    rw[QlS];simp
   have hd:=Int.tdiv_eq_ediv_of_nonneg (b:=128) h0
   have hb:=QzL h0 hn
   have hq:n=n / 128*128+n % 128:=by omega
   have key:acc+n % 128*128^i+n / 128*128^(i+1)=acc+n*128^i:=by
    have:n*128^i=n / 128*128^(i+1)+n % 128*128^i:=by
     rw[hp.2.2,<-Int.mul_assoc,Int.mul_right_comm (n / 128) (128^i) 128,<-Int.add_mul,<-hq]
    omega
   have hr0:0<=n % 128*128^i:=Int.mul_nonneg (by omega) (by omega)
   have ih:=Qrx l f (n / 128) (i+1) (acc+n % 128*128^i) (by omega) (by rw[Int.pow_succ]at h1;omega) (fun _=>by omega) (by omega) (by omega) (by omega)
   rw[e1,hd]
   rw[QRv,zJ,hb,if_pos (by omega),show(n % 128+128) % 128=n % 128 by omega,ih,key]
   simp only[List.length_cons]
   congr 2;omega
  ·have e1:Xu (f+1) n []=(n,[]):=by simp only[Xu,h128,if_false]
   have e:IntKind.wrap .u8 n=n:=by rw[IntKind.wrap_u8];omega
   rw[e1]
   simp only[QRe,List.singleton_append,e,List.length_nil,Nat.add_zero]
   rw[zJ,if_neg h128,show n % 128=n by omega,if_neg]
   intro h
   rcases h with h|h
   ·have:=hi h.1;omega
   ·omega
def Enc (b:List Int) (p:Int) (l:List Int):Prop:=∃k:Nat,p=(k:Int)/\k<=b.length/\b.drop k=l
theorem Enc.start (b:List Int):Enc b 0 b:=⟨0,rfl,Nat.zero_le _,rfl⟩
theorem Enc.skip {b:List Int}{k:Nat}{a l:List Int}(h:b.drop k=a++l) (hk:k<=b.length):Enc b ((k+a.length:Nat):Int) l:=by
 have h2:(b.drop k).length=(a++l).length:=by rw[h]
 rw[List.length_drop,QRj]at h2
 refine⟨k+a.length,rfl,by omega, ?_⟩
 rw[<-List.drop_drop,h,List.drop_left]
theorem QrE {b:List Int}{p n:Int}{l:List Int}(h:Enc b p (Qd n++l)) (h0:0<=n) (h1:n<=2147483647):∃p',Xr b p=(n,p',true)/\Enc b p' l:=by
 obtain⟨k,rfl,hk,hd⟩:=h
 have hin:inR n 0 2147483647=true:=QW.2 ⟨h0,h1⟩
 have e:Qd n=(Xu 4 n []).2++[IntKind.wrap .u8 (Xu 4 n []).1]:=by unfold Qd;rw[hin];rfl
 have hlen:(Qd n).length=(Xu 4 n []).2.length+1:=by rw[e];simp
 have hr:=Qrx l 4 n 0 0 h0 (by omega) (fun h=>absurd h (by omega)) (by omega) (by simp;omega) (by omega)
 refine⟨((k+(Qd n).length:Nat):Int), ?_,Enc.skip hd hk⟩
 have hlt:k<b.length:=by
  have h2:(b.drop k).length=(Qd n++l).length:=by rw[hd]
  rw[List.length_drop,QRj,hlen]at h2
  omega
 unfold Xr
 rw[if_pos (by omega),QRb,hd,e,QRc,hr]
 simp only[Qsf,Int.zero_add,Int.pow_zero,Int.mul_one,QRo]
 rw[show(k:Int)+(((Xu 4 n []).2.length+1:Nat):Int)=((k+((Xu 4 n []).2++[IntKind.wrap .u8 (Xu 4 n []).1]).length:Nat):Int) by rw[QRj];simp]
theorem Xq {b:List Int}{p n:Int}{l:List Int}(h:Enc b p (Qd n++l)) (h0:0<=n) (h1:n<=2147483647):∃p',rnum b p false=(n,p',false)/\Enc b p' l:=by
 obtain⟨p',e,h2⟩:=QrE h h0 h1
 exact⟨p',by unfold rnum;rw[e];rfl,h2⟩
theorem Qoc (s:ByteArray):QA (ofBytes s)=s:=by
 unfold QA ofBytes
 rw[List.map_map]
 have:((fun n:Int=>n.toNat.toUInt8)∘fun b:UInt8=>(b.toNat:Int))=id:=by
  funext x
  simp
 rw[this,List.map_id]
theorem QkY: {a b:List Int}->isB a->isB b->QA a=QA b->a=b:=by
 intro a b ha hb h
 have h1:a.map (fun n=>n.toNat.toUInt8)=b.map (fun n=>n.toNat.toUInt8):=by
  have:=congrArg (fun z:ByteArray=>z.data.toList) h
  simpa[QA]using this
 clear h
 induction a generalizing b with
 |nil=>cases b with
  |nil=>rfl
  |cons y l=>simp at h1
 |cons x l ih=>cases b with
  |nil=>simp at h1
  |cons y m=>
   simp only[List.map_cons,List.cons.injEq]at h1
   have hx:=ha x (by simp)
   have hy:=hb y (by simp)
   have e:x=y:=by
    have h3:=congrArg UInt8.toNat h1.1
    simp only[Nat.toUInt8,UInt8.toNat_ofNat']at h3
    omega
   rw[e,ih (fun z hz=>ha z (by simp[hz])) (fun z hz=>hb z (by simp[hz])) h1.2]
theorem Qx1 {b:List Int}{p:Int}{s:ByteArray}{l:List Int}(h:Enc b p (Yr s++l)) (hs:s.size<=8):∃p',X4 b p=(s,p',true)/\Enc b p' l:=by
 unfold Yr at h
 rw[QRc]at h
 obtain⟨q,e,k,rfl,hk,hd⟩:=QrE h (by omega) (by omega)
 have hl:(ofBytes s).length=s.size:=Qg0 s
 have h2:(b.drop k).length=(ofBytes s++l).length:=by rw[hd]
 rw[List.length_drop,QRj,hl]at h2
 refine⟨((k+(ofBytes s).length:Nat):Int), ?_,Enc.skip hd hk⟩
 unfold X4
 rw[e]
 simp only[QQ1,df (show¬(b.length:Int) - (k:Int)<(s.size:Int) by omega),QQ2,QRb,hd]
 rw[<-hl,List.take_left,Qoc,Int.natCast_add]
def inN (n:Int):Prop:=0<=n/\n<=2147483647
theorem Qmt {b:List Int}{l:List Int}:(xs:List Int)->(p:Int)->(∀x∈xs,inN x)->Enc b p (xs.flatMap Qd++l)->∃p',V1 b xs.length p false=(xs,p',false)/\Enc b p' l
 | [],p,_,h=>⟨p,rfl,h⟩
 |x::xs,p,hx,h=>by
  rw[List.flatMap_cons,QRc]at h
  obtain⟨p1,e1,h1⟩:=Xq h (hx x (by simp)).1 (hx x (by simp)).2
  obtain⟨p2,e2,h2⟩:=Qmt xs p1 (fun y hy=>hx y (by simp[hy])) h1
  exact⟨p2,by simp only[List.length_cons,V1,e1,e2],h2⟩
theorem Qnv {b:List Int}{l:List Int}:(xs:List Int)->(p:Int)->(∀x∈xs,inN x)->Enc b p (xs.flatMap Qd++l)->∃p',K0 b xs.length p false=(xs,p',false)/\Enc b p' l
 | [],p,_,h=>⟨p,rfl,h⟩
 |x::xs,p,hx,h=>by
  rw[List.flatMap_cons,QRc]at h
  obtain⟨p1,e1,h1⟩:=Xq h (hx x (by simp)).1 (hx x (by simp)).2
  obtain⟨p2,e2,h2⟩:=Qnv xs p1 (fun y hy=>hx y (by simp[hy])) h1
  exact⟨p2,by simp only[List.length_cons,K0,e1,e2,QQ2],h2⟩
theorem QdJ {b:List Int}{p n most:Int}{l:List Int}(h:Enc b p (Qd n++l)) (h0:0<=n) (h1:n<=2147483647) (hm:n<=most):∃p',rcount b p false most=(n,p',false)/\Enc b p' l:=by
 obtain⟨p1,e1,h2⟩:=Xq h h0 h1
 exact⟨p1,by unfold rcount;rw[e1];simp only[df (show¬most<n by omega),QQ2],h2⟩
theorem QjQ {b:List Int}{p most:Int}{xs l:List Int}(hx:∀x∈xs,inN x) (hl:((xs.length:Nat):Int)<=most) (hm:most<=5) (h:Enc b p (nums xs++l)):∃p',rnums b p false most=(xs,p',false)/\Enc b p' l:=by
 unfold nums at h
 rw[QRc]at h
 obtain⟨p1,e1,h1⟩:=QdJ (most:=most) h (by omega) (by omega) hl
 obtain⟨p2,e2,h2⟩:=Qmt xs p1 hx h1
 exact⟨p2,by unfold rnums;rw[e1];simp only[QRb,e2],h2⟩
theorem QbS {b:List Int}{p:Int}{xs l:List Int}(t n:Nat) (hx:∀x∈xs,inN x) (hn:xs.length=n*t) (hm:n<=5) (h:Enc b p (Qd (n:Nat)++(xs.flatMap Qd++l))):∃p',rmany b p false t=(xs,p',false)/\Enc b p' l:=by
 obtain⟨p1,e1,h1⟩:=Xq h (by omega) (by omega)
 obtain⟨p2,e2,h2⟩:=Qnv xs p1 hx h1
 exact⟨p2,by unfold rmany;rw[e1];simp only[df (show¬(100:Int)<(n:Int) by omega),QQ2,QRb,<-hn,e2],h2⟩
end Go.Proofs.YtameehmkoglkeaaGreatDoor.M
