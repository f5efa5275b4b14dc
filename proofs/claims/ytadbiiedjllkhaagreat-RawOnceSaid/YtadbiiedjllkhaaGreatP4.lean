import Derived.Test.YtadbiiedjllkhaaGreatP3
set_option linter.unusedVariables false
set_option linter.unusedSimpArgs false
set_option linter.defProp false
set_option linter.unusedSectionVars false
noncomputable section
namespace Go.Vm
set_option maxRecDepth 100000
set_option maxHeartbeats 4000000
noncomputable section
def avX {k i:Nat}(h:k=i):Nat.beq k i=true:=by rw[aC];exact h
def ays {k i:Nat}(h:¬k=i):Nat.beq k i=false:=by rw[<-fP,aC];exact h
def mo (l:C_):Nat->Nat:=List.rec (motive:=λ_=>Nat->Nat) (λ_=>0) (λx _ ih i=>Nat.casesOn (motive:=λ_=>Nat) i x (λk=>ih k)) l
def zj:∀(l:C_) (i:Nat),mo l i=nth l i
 |[],i=>by simp[nth];rfl
 |x::l,0=>rfl
 |x::l,i+1=>zj l i
def alF (l:C_):Nat->Nat->C_:=List.rec (motive:=λ_=>Nat->Nat->C_) (λ_ _=>[]) (λx r ih i v=>Nat.casesOn (motive:=λ_=>C_) i (v::r) (λk=>x::ih k v)) l
def aiH:∀(l:C_) (i v:Nat),alF l i v=l.set i v
 |[],i,v=>rfl
 |x::l,0,v=>rfl
 |x::l,i+1,v=>by
  show x::alF l i v=_;rw[aiH l i v];rfl
def YI (xs:C_)(i j:Nat):C_:=alF (alF xs i (mo xs j)) j (mo xs i)
def RZ (xs:C_)(i j:Nat):YI xs i j=swp xs i j:=by simp only[YI,swp,aiH,zj]
def To (l:C_)(x y:Nat):Bool:=Nat.ble (Nat.succ (mo l x)) (mo l y)
def Ec (l:C_)(x y:Nat):(To l x y=true)=(cC l x y<0):=by
 simp only[To,zj,bg,cC];apply propext;constructor
 .intro h;rw[ac o_];omega
 .intro h;split at h
  .omega
  .split at h<;>omega
def RN (a b:Nat):Nat->Nat->C_->C_
 |0,_,xs=>xs
 |k+1,i,xs=>RN a b k (i+1) (YI xs (a+i) (b+i))
def M7 {a b:Nat}:∀(k i:Nat) (xs:C_),RN a b k i xs=swpR xs a b k i
 |0,_,_=>rfl
 |k+1,i,xs=>by rw[RN,swpR,RZ,M7]
def aei (m:Nat):Nat->C_->Nat->Nat->C_
 |0,xs,i,j=>xs
 |f+1,xs,i,j=>match Nat.beq i j with
  |true=>RN (m-i) m i 0 xs
  |false=>match Nat.ble i j with
   |true=>aei m f (RN (m-i) (m+j-i) i 0 xs) i (j-i)
   |false=>aei m f (RN (m-i) m j 0 xs) (i-j) j
def ZR {m:Nat}:∀(f:Nat) (xs:C_) (i j:Nat),aei m f xs i j=rot m f xs i j
 |0,_,_,_=>rfl
 |f+1,xs,i,j=>by
  rw[aei,rot];by_cases h:i=j
  .rw[avX h,ac h,M7]
  .rw[ays h,aa h];by_cases h2:j<i
   .rw[show Nat.ble i j=false by rw[<-fP,bg];omega,ac h2];simp only[ZR,M7]
   .rw[cO (by omega:i<=j),aa h2];simp only[ZR,M7]
section
variable (l:C_)
def ac3 (a:Nat):Nat->C_->C_
 |0,xs=>xs
 |j+1,xs=>match Nat.ble a j with
  |false=>xs
  |true=>match To l (mo xs (j+1)) (mo xs j) with
   |true=>ac3 a j (YI xs (j+1) j)
   |false=>xs
def adN {a:Nat}:∀(j:Nat) (xs:C_),ac3 l a j xs=insJ (cC l) a j xs
 |0,_=>rfl
 |j+1,xs=>by
  rw[ac3,insJ];by_cases h:a<=j
  .rw[cO h];simp only[zj]
   cases h2:To l (nth xs (j+1)) (nth xs j) with
   |true=>rw[ac ⟨h,by rw[<-Ec];exact h2⟩,<-adN,RZ]
   |false=>rw[aa (λq=>by have:=q.2;rw[<-Ec,h2]at this;exact absurd this s_)]
  .rw[show Nat.ble a j=false by rw[<-fP,bg];exact h,aa (λq=>h q.1)]
def WY (a:Nat):Nat->Nat->C_->C_
 |0,_,xs=>xs
 |k+1,i,xs=>WY a k (i+1) (ac3 l a i xs)
def Vl {a:Nat}:∀(k i:Nat) (xs:C_),WY l a k i xs=insO (cC l) a k i xs
 |0,_,_=>rfl
 |k+1,i,xs=>by rw[WY,insO,adN,Vl]
def afv (xs:C_)(a:Nat):Nat->Nat->Nat->Nat
 |0,i,_=>i
 |f+1,i,j=>match Nat.ble j i with
  |true=>i
  |false=>match To l (mo xs ((i+j) / 2)) (mo xs a) with
   |true=>afv xs a f ((i+j) / 2+1) j
   |false=>afv xs a f i ((i+j) / 2)
def Zs {xs:C_}{a:Nat}:∀(f i j:Nat),afv l xs a f i j=K4 (cC l) xs a f i j
 |0,_,_=>rfl
 |f+1,i,j=>by
  rw[afv,K4];by_cases h:i<j
  .rw[show Nat.ble j i=false by rw[<-fP,bg];omega,ac h];simp only[zj]
   cases h2:To l (nth xs ((i+j) / 2)) (nth xs a) with
   |true=>rw[ac (by rw[<-Ec];exact h2)];simp only[Zs]
   |false=>rw[aa (by rw[<-Ec,h2];simp)];simp only[Zs]
  .rw[cO (by omega:j<=i),aa h]
def afg (xs:C_)(m:Nat):Nat->Nat->Nat->Nat
 |0,i,_=>i
 |f+1,i,j=>match Nat.ble j i with
  |true=>i
  |false=>match To l (mo xs m) (mo xs ((i+j) / 2)) with
   |true=>afg xs m f i ((i+j) / 2)
   |false=>afg xs m f ((i+j) / 2+1) j
def aam {xs:C_}{m:Nat}:∀(f i j:Nat),afg l xs m f i j=KF (cC l) xs m f i j
 |0,_,_=>rfl
 |f+1,i,j=>by
  rw[afg,KF];by_cases h:i<j
  .rw[show Nat.ble j i=false by rw[<-fP,bg];omega,ac h];simp only[zj]
   cases h2:To l (nth xs m) (nth xs ((i+j) / 2)) with
   |true=>rw[ac (by rw[<-Ec];exact h2)];simp only[aam]
   |false=>rw[aa (by rw[<-Ec,h2];simp)];simp only[aam]
  .rw[cO (by omega:j<=i),aa h]
def Zt (xs:C_)(p:Nat):Nat->Nat->Nat->Nat
 |0,i,_=>i
 |f+1,i,j=>match Nat.ble j i with
  |true=>i
  |false=>match To l (mo xs (p-(i+j) / 2)) (mo xs ((i+j) / 2)) with
   |true=>Zt xs p f i ((i+j) / 2)
   |false=>Zt xs p f ((i+j) / 2+1) j
def YM {xs:C_}{p:Nat}:∀(f i j:Nat),Zt l xs p f i j=rl (cC l) xs p f i j
 |0,_,_=>rfl
 |f+1,i,j=>by
  rw[Zt,rl];by_cases h:i<j
  .rw[show Nat.ble j i=false by rw[<-fP,bg];omega,ac h];simp only[zj]
   cases h2:To l (nth xs (p-(i+j) / 2)) (nth xs ((i+j) / 2)) with
   |true=>rw[ac (by rw[<-Ec];exact h2)];simp only[YM]
   |false=>rw[aa (by rw[<-Ec,h2];simp)];simp only[YM]
  .rw[cO (by omega:j<=i),aa h]
def alm:Nat->Nat->C_->C_
 |0,_,xs=>xs
 |n+1,k,xs=>alm n (k+1) (YI xs k (k+1))
def aiZ:∀(n k:Nat) (xs:C_),alm n k xs=shU n k xs
 |0,_,_=>rfl
 |n+1,k,xs=>by rw[alm,shU,RZ,aiZ]
def alc:Nat->Nat->C_->C_
 |0,_,xs=>xs
 |n+1,k,xs=>alc n (k-1) (YI xs k (k-1))
def ajq:∀(n k:Nat) (xs:C_),alc n k xs=shD n k xs
 |0,_,_=>rfl
 |n+1,k,xs=>by rw[alc,shD,RZ,ajq]
def Rm:Nat->C_->Nat->Nat->Nat->C_
 |0,xs,_,_,_=>xs
 |f+1,xs,a,m,b =>
  if m-a=1 then alm (afv l xs a (b-m) m b-1-a) a xs
  else if b-m=1 then alc (m-afg l xs m (m-a) a m) m xs
  else
   let s:=if (a+b) / 2<m then Zt l xs ((a+b) / 2+m-1) (b-a) ((a+b) / 2+m-b) ((a+b) / 2) else Zt l xs ((a+b) / 2+m-1) (b-a) a m
   let e:=(a+b) / 2+m-s
   let ys:=if s<m∧m<e then aei m (e-s) xs (m-s) (e-m) else xs
   let zs:=if a<s∧s<(a+b) / 2 then Rm f ys a s ((a+b) / 2) else ys
   if (a+b) / 2<e∧e<b then Rm f zs ((a+b) / 2) e b else zs
def U4:∀(f:Nat) (xs:C_) (a m b:Nat),Rm l f xs a m b=symM (cC l) f xs a m b
 |0,_,_,_,_=>rfl
 |f+1,xs,a,m,b=>by
  rw[Rm,symM];simp only[aiZ,ajq,Zs,aam,YM,ZR,U4 f]
def afH (n:Nat):Nat->C_->Nat->C_×Nat
 |0,xs,a=>(xs,a)
 |f+1,xs,a=>if a+20<=n then afH n f (WY l a 19 (a+1) xs) (a+20) else (xs,a)
def aj1 {n:Nat}:∀(f:Nat) (xs:C_) (a:Nat),afH l n f xs a=IS (cC l) n f xs a
 |0,_,_=>rfl
 |f+1,xs,a=>by rw[afH,IS];simp only[Vl,aj1 f]
def afi (n bs:Nat):Nat->C_->Nat->C_×Nat
 |0,xs,a=>(xs,a)
 |f+1,xs,a=>if a+2*bs<=n then afi n bs f (Rm l (2*bs) xs a (a+bs) (a+2*bs)) (a+2*bs) else (xs,a)
def aiM {n bs:Nat}:∀(f:Nat) (xs:C_) (a:Nat),afi l n bs f xs a=NH (cC l) n bs f xs a
 |0,_,_=>rfl
 |f+1,xs,a=>by rw[afi,NH];simp only[U4,aiM f]
def ald (n bs:Nat)(p:C_×Nat):C_:=if p.2+bs<n then Rm l (n-p.2) p.1 p.2 (p.2+bs) n else p.1
def auz {n bs:Nat}(p:C_×Nat):ald l n bs p=stE (cC l) n bs p:=by rw[ald,stE];simp only[U4]
def ark (n:Nat)(p:C_×Nat):C_:=WY l p.2 (n-(p.2+1)) (p.2+1) p.1
def at1 {n:Nat}(p:C_×Nat):ark l n p=stS (cC l) n p:=Vl l _ _ _
def PE (n:Nat):Nat->C_->Nat->C_
 |0,xs,_=>xs
 |f+1,xs,bs=>if bs<n then PE n f (ald l n bs (afi l n bs n xs 0)) (2*bs) else xs
def ajz {n:Nat}:∀(f:Nat) (xs:C_) (bs:Nat),PE l n f xs bs=WI (cC l) n f xs bs
 |0,_,_=>rfl
 |f+1,xs,bs=>by rw[PE,WI];simp only[auz,aiM,ajz f]
def ZB (n:Nat)(xs:C_):C_:=PE l n n (ark l n (afH l n n xs 0)) 20
def so {n:Nat}(xs:C_):ZB l n xs=q7 (cC l) n xs:=by rw[ZB,q7,ajz,at1,aj1]
def rnd (n bs:Nat)(xs:C_):C_:=ald l n bs (afi l n bs n xs 0)
end
end
def st1:q7 (cC (jr 1)) (bh 1) (List.range (bh 1))=b8 1:=by rw[<-so];decide +kernel
def st3:q7 (cC (jr 3)) (bh 3) (List.range (bh 3))=b8 3:=by rw[<-so];decide +kernel
def st5:q7 (cC (jr 5)) (bh 5) (List.range (bh 5))=b8 5:=by rw[<-so];decide +kernel
def st7:q7 (cC (jr 7)) (bh 7) (List.range (bh 7))=b8 7:=by rw[<-so];decide +kernel
def aCg:q7 (cC (jr 12)) (bh 12) (List.range (bh 12))=b8 12:=by rw[<-so];decide +kernel
def st9:q7 (cC (jr 9)) (bh 9) (List.range (bh 9))=b8 9:=by rw[<-so];decide +kernel
noncomputable section
def asE:C_:=[0,1,17,2,18,3,19,4,5,6,7,8,9,10,11,12,13,14,15,16,34,35,20,36,21,37,22,38,23,39,24,25,26,27,28,29,30,31,32,33,51,52,53,54,55,40,56,41,57,42,58,43,59,44,45,46,47,48,49,50,68,69,70,71,72,73,74,75,60,76,61,77,62,78,63,79,64,65,66,67,85,86,87,88,89,90,91,92,93,94,95,80,96,81,97,82,98,83,99,84,102,103,119,104,105,106,107,108,109,110,111,112,113,114,115,100,116,101,117,118,120,136,121,137,122,138,123,139,124,125,126,127,128,129,130,131,132,133,134,135,153,154,155,140,156,141,157,142,158,143,159,144,145,146,147,148,149,150,151,152,170,171,172,173,174,175,160,176,161,177,162,178,163,179,164,165,166,167,168,169,187,188,189,190,191,192,193,194,195,180,196,181,197,182,198,183,199,184,185,186,204,205,206,207,208,209,210,211,212,213,214,215,200,216,201,217,202,218,203,219,221,222,238,223,239,224,225,226,227,228,229,230,231,232,233,234,235,220,236,237,255,240,256,241,257,242,258,243,259,244,245,246,247,248,249,250,251,252,253,254,272,273,274,275,260,276,261,277,262,278,263,279,264,265,266,267,268,269,270,271,280,281,282,283,284,285,286,287,288]
def asC:C_:=[0,1,17,2,18,34,3,19,35,4,20,36,5,21,37,6,22,38,7,23,39,8,24,9,25,10,26,11,27,12,28,13,29,14,30,15,31,16,32,33,51,52,68,53,69,54,70,55,71,40,56,72,41,57,73,42,58,74,43,59,75,44,60,76,45,61,77,46,62,78,47,63,79,48,64,49,65,50,66,67,85,86,102,87,103,119,88,104,89,105,90,106,91,107,92,108,93,109,94,110,95,111,80,96,112,81,97,113,82,98,114,83,99,115,84,100,116,101,117,118,120,136,121,137,153,122,138,154,123,139,155,124,140,156,125,141,157,126,142,158,127,143,159,128,144,129,145,130,146,131,147,132,148,133,149,134,150,135,151,152,170,171,187,172,188,173,189,174,190,175,191,160,176,192,161,177,193,162,178,194,163,179,195,164,180,196,165,181,197,166,182,198,167,183,199,168,184,169,185,186,204,205,221,206,222,238,207,223,239,208,224,209,225,210,226,211,227,212,228,213,229,214,230,215,231,200,216,232,201,217,233,202,218,234,203,219,235,220,236,237,255,240,256,272,241,257,273,242,258,274,243,259,275,244,260,276,245,261,277,246,262,278,247,263,279,248,264,249,265,250,266,251,267,252,268,253,269,254,270,271,280,281,282,283,284,285,286,287,288]
def asB:C_:=[0,1,17,2,18,34,3,19,35,51,4,20,36,52,68,5,21,37,53,69,6,22,38,54,70,7,23,39,55,71,8,24,40,56,72,9,25,41,57,73,10,26,42,58,74,11,27,43,59,75,12,28,44,60,76,13,29,45,61,77,14,30,46,62,78,15,31,47,63,79,16,32,48,64,33,49,65,50,66,67,85,86,102,87,103,119,88,104,120,136,89,105,121,137,153,90,106,122,138,154,91,107,123,139,155,92,108,124,140,156,93,109,125,141,157,94,110,126,142,158,95,111,127,143,159,80,96,112,128,144,81,97,113,129,145,82,98,114,130,146,83,99,115,131,147,84,100,116,132,148,101,117,133,149,118,134,150,135,151,152,170,171,187,172,188,204,173,189,205,221,174,190,206,222,238,175,191,207,223,239,160,176,192,208,224,161,177,193,209,225,162,178,194,210,226,163,179,195,211,227,164,180,196,212,228,165,181,197,213,229,166,182,198,214,230,167,183,199,215,231,168,184,200,216,232,169,185,201,217,233,186,202,218,234,203,219,235,220,236,237,255,240,256,272,241,257,273,242,258,274,243,259,275,244,260,276,245,261,277,246,262,278,247,263,279,248,264,280,249,265,281,250,266,282,251,267,283,252,268,284,253,269,285,254,270,286,271,287,288]
def arX:C_:=[0,1,17,2,18,34,3,19,35,51,4,20,36,52,68,5,21,37,53,69,85,6,22,38,54,70,86,102,7,23,39,55,71,87,103,119,8,24,40,56,72,88,104,120,136,9,25,41,57,73,89,105,121,137,153,10,26,42,58,74,90,106,122,138,154,11,27,43,59,75,91,107,123,139,155,12,28,44,60,76,92,108,124,140,156,13,29,45,61,77,93,109,125,141,157,14,30,46,62,78,94,110,126,142,158,15,31,47,63,79,95,111,127,143,159,16,32,48,64,80,96,112,128,144,33,49,65,81,97,113,129,145,50,66,82,98,114,130,146,67,83,99,115,131,147,84,100,116,132,148,101,117,133,149,118,134,150,135,151,152,170,171,187,172,188,204,173,189,205,221,174,190,206,222,238,175,191,207,223,239,255,160,176,192,208,224,240,256,272,161,177,193,209,225,241,257,273,162,178,194,210,226,242,258,274,163,179,195,211,227,243,259,275,164,180,196,212,228,244,260,276,165,181,197,213,229,245,261,277,166,182,198,214,230,246,262,278,167,183,199,215,231,247,263,279,168,184,200,216,232,248,264,280,169,185,201,217,233,249,265,281,186,202,218,234,250,266,282,203,219,235,251,267,283,220,236,252,268,284,237,253,269,285,254,270,286,271,287,288]
def ayo:ark (jr 11) 289 (afH (jr 11) 289 289 (List.range 289) 0)=asE:=e_
def ayd:rnd (jr 11) 289 20 asE=asC:=e_
def azc:rnd (jr 11) 289 40 asC=asB:=e_
def ax4:rnd (jr 11) 289 80 asB=arX:=e_
def ayE:rnd (jr 11) 289 160 arX=b8 11:=e_
def aBf:q7 (cC (jr 11)) 289 (List.range 289)=b8 11:=by
 rw[<-so,ZB,ayo];have u:∀(f:Nat) (xs:C_) (bs:Nat),bs<289->PE (jr 11) 289 (f+1) xs bs=PE (jr 11) 289 f (rnd (jr 11) 289 bs xs) (2*bs):=λf xs bs h=>by rw[PE,ac h];rfl
 rw[u 288 _ _ o_,ayd,u 287 _ _ o_,azc,u 286 _ _ o_,ax4,u 285 _ _ o_,ayE];rw[show(285:Nat)=284+1 from rfl,PE,aa o_]
end
abbrev cx:=@List.replicate_succ
abbrev mW:=@List.set_append_right
abbrev sO:=@Nat.sub_self
def apM:jr 2=jr 1∧jr 4=jr 3∧jr 6=jr 5∧jr 8=jr 7∧jr 10=jr 9:=⟨rfl,rfl,rfl,rfl,rfl⟩
def ak4:b8 2=b8 1∧b8 4=b8 3∧b8 6=b8 5∧b8 8=b8 7∧b8 10=b8 9:=⟨rfl,rfl,rfl,rfl,rfl⟩
def awc (id:Nat)(h:jf id):q7 (cC (jr id)) (bh id) (List.range (bh id))=b8 id:=by
 obtain⟨p2,p4,p6,p8,p10⟩:=apM;obtain⟨q2,q4,q6,q8,q10⟩:=ak4;have h1:id=1∨id=2∨id=3∨id=4∨id=5∨id=6∨id=7∨id=8∨id=9∨id=10∨id=11∨id=12:=o_;rcases h1 with rfl|rfl|rfl|rfl|rfl|rfl|rfl|rfl|rfl|rfl|rfl|rfl
 .exact st1
 .rw[p2,q2];exact st1
 .exact st3
 .rw[p4,q4];exact st3
 .exact st5
 .rw[p6,q6];exact st5
 .exact st7
 .rw[p8,q8];exact st7
 .exact st9
 .rw[p10,q10];exact st9
 .exact aBf
 .exact aCg
def ai2:∀id∈ids,bh id<=289∧bh id % 20≠0∧1<=bh id:=e_
def rks (es:C_):Nat->Nat->C_->C_
 |0,_,R=>R
 |k+1,i,R=>rks es k (i+1) (R.set (nth es i) i)
def aub:∀id∈ids,rks (b8 id) (bh id) 0 (List.replicate (bh id) 0)=dy id:=e_
def aiY:∀id∈ids,(b8 id).length=bh id∧(dy id).length=bh id∧(b8 id).all (λe=>decide (e<bh id))=true:=e_
def Eq (n i:Nat):C_:=List.range i++List.replicate (n-i) 0
def aqy {n i:Nat}(h:i<=n):(Eq n i).length=n:=by simp[Eq];omega
def aqJ {n i:Nat}(h:i<n):(Eq n i).set i i=Eq n (i+1):=by
 unfold Eq;obtain⟨k,hk⟩:∃k,n-i=k+1:=⟨n-i-1,o_⟩
 rw[hk,cx,mW _ _ s_,rg,sO,List.set_cons_zero,List.range_succ,ay]
 congr 2
 rw[show n-(i+1)=k by omega];rfl
section
variable (id n:Nat)(Z:D_)
def agX (hn:n<=289)(R:C_)(a b c d:AV)(x0 x1:D)(N:Nat):∀(k i:Nat),i+k=n->
  (Dn prog).code (.loop xW) ⟨[(2,.ptr 0 0),(6,.ptr 4 0),(7,.ptr 5 0),(34,A_ n),(35,A_ i)],
   ⟨[(0,.cells [a,b,c,d]),(2,.arr 1 (cN (Eq n i))),(3,.arr 1 (cN R)),(4,.cells [.d x0,.d x1,.sl 2 0 n,.sl 3 0 n]),(5,.cells Z)],N⟩⟩ =
  some (.exit 0,⟨[(2,.ptr 0 0),(6,.ptr 4 0),(7,.ptr 5 0)],⟨[(0,.cells [a,b,c,d]),(2,.arr 1 (cN (Eq n n))),(3,.arr 1 (cN R)),(4,.cells [.d x0,.d x1,.sl 2 0 n,.sl 3 0 n]),(5,.cells Z)],N⟩⟩):=by
 intro k
 induction k with
 |zero =>
  intro i h;have:i=n:=o_;subst this;rw[ah NZ];simp(maxSteps:=300000) (disch:=omega)[↓ac,↓aa]
 |succ k ih =>
  intro i h;have l:=aqy (n:=n) (i:=i) o_;have h5:=ih (i+1) o_;have c1:((i+1:Nat):Int)=(i:Int)+1:=rfl;rw[c1]at h5;rw[ah NZ,<-h5,<-aqJ o_];generalize Eq n i=xs at *;simp(maxSteps:=300000) (disch:=omega)[↓ac,↓aa]
def aib (hn:n<=289)(es:C_)(he:es.length=n)(hu:eE n es)(a b c d:AV)(x0 x1:D)(N:Nat):∀(k i:Nat) (R:C_),i+k=n->R.length=n->
  (Dn prog).code (.loop yp) ⟨[(2,.ptr 0 0),(6,.ptr 4 0),(49,.sl 2 0 n),(50,A_ n),(51,A_ i)],
   ⟨[(0,.cells [a,b,c,d]),(2,.arr 1 (cN es)),(3,.arr 1 (cN R)),(4,.cells [.d x0,.d x1,.sl 2 0 n,.sl 3 0 n]),(5,.cells Z)],N⟩⟩ =
  some (.exit 2,⟨[(2,.ptr 0 0),(6,.ptr 4 0)],⟨[(0,.cells [a,b,c,d]),(2,.arr 1 (cN es)),(3,.arr 1 (cN (rks es k i R))),(4,.cells [.d x0,.d x1,.sl 2 0 n,.sl 3 0 n]),(5,.cells Z)],N⟩⟩):=by
 intro k
 induction k with
 |zero =>
  intro i R h hR;rw[ah NE];simp(maxSteps:=300000) (disch:=omega)[↓ac,↓aa,rks]
 |succ k ih =>
  intro i R h hR;have h5:=ih (i+1) (R.set (nth es i) i) o_ (by simpa using hR);have c1:((i+1:Nat):Int)=(i:Int)+1:=rfl;have hv:=hu.nth (i:=i) o_;rw[c1]at h5;rw[ah NE,rks,<-h5];simp(maxSteps:=300000) (disch:=omega)[↓ac,↓aa]
end
abbrev kX:=@List.set_eq_take_append_cons_drop
abbrev rq:=@List.getElem_take
abbrev gB:=@List.getElem?_eq_none
abbrev ll:=@List.drop_zero
@[simp] def aCf {h:am}{n id off:Nat}{k:IntKind}{z:Int}(h0:0<=z)(h1:z<=n):Pu h n (.ptr id off) none (some (.d (.int k z))) none=bA (get h id) λo=>bA (cellsOf o) λcs=>dB (Nat.ble (off+n) cs.length) (some (.sl id off z.toNat)):=by
 obtain⟨d,rfl⟩:=aA h0;have hd:Nat.ble d n=true:=cO o_;have hb:vF n none (some (.d (.int k (d:Int)))) none=some (0,d,n):=by
  show(match (match Nat.ble d n with|true=>some d|false=>none) with|none=>none|some h=>uN none h n)=_;rw[hd];rfl
 simp only[Pu,Rx]
 cases get h id with
 |none=>rfl
 |some o =>
  cases o with
  |cells cs =>
   simp only[bA,cellsOf,hb]
   cases Nat.ble (off+n) cs.length<;>simp[dB]
  |arr=>rfl
  |loop=>rfl
def vc (V:G_):D_:=V.map λz=>A_ z
def QS {V:G_}:(vc V).length=V.length:=by simp[vc]
def anx {V:G_}{i:Nat}(h:i<V.length):(vc V)[i]?=some (A_ (nth V i)):=by
 rw[vc,bS,zk h];rfl
def aw7 {V:G_}{i:Nat}{z:Int}:(vc V).set i (A_ z)=vc (V.set i z):=by simp[vc,kR]
def agi {V:G_}{i:Nat}{z:Int}(h:i<V.length):List.take i (vc V)++AV.d (.int .i64 z)::List.drop (i+1) (vc V)=vc (V.set i z):=by
 rw[<-aw7,kX,ac (by rw[QS];exact h)]
def odo (lo hi:Int):Nat->G_->G_
 |0,V=>V
 |i+1,V=>if nth V i+1<=hi then V.set i (nth V i+1) else odo lo hi i (V.set i lo)
abbrev Sm (V:G_):Prop:=∀z∈V,-100000<=z∧z<=100000
section
variable (k1:AV)(dm lo hi pl:Int)(cq:D_)(N:Nat)
def ap0 (d n m:Nat)(hd:d<=4)(V:G_)(hV:V.length=4)(hs:Sm V):∀(k i sum:Nat),i+k=d->sum<=1000000*(i+1)->
  (Dn prog).code (.loop mV) ⟨[(1,.ptr 0 0),(2,.ptr 1 0),(3,.ptr 2 0),(5,A_ n),(6,A_ sum),(21,A_ m),(22,A_ n),(27,.sl 2 0 d),(28,A_ d),(29,A_ i)],
   ⟨[(0,.cells [A_ dm,A_ lo,A_ hi,A_ pl]),(1,.cells cq),(2,.cells (vc V))],N⟩⟩ =
  some (.exit 4,⟨[(1,.ptr 0 0),(2,.ptr 1 0),(3,.ptr 2 0),(5,A_ n),(6,A_ ((sum+Ms ((V.take d).drop i):Nat))),(21,A_ m),(22,A_ n)],
   ⟨[(0,.cells [A_ dm,A_ lo,A_ hi,A_ pl]),(1,.cells cq),(2,.cells (vc V))],N⟩⟩):=by
 intro k
 induction k with
 |zero =>
  intro i sum h1 h2;have e:(V.take d).drop i=[]:=cH g_;rw[ah Br,e];simp(maxSteps:=300000) (disch:=omega)[↓ac,↓aa,Ms]
 |succ k ih =>
  intro i sum h1 h2;have hg:=anx (V:=V) (i:=i) o_;have hb:=hs (nth V i) (iP o_);have e:(V.take d).drop i=nth V i::(V.take d).drop (i+1):=by
   rw[dY g_]
   congr 1
   rw[rq,afF o_]
  have h5:=ih (i+1) (sum+(nth V i).natAbs) o_ o_;have es:sum+Ms ((V.take d).drop i)=sum+(nth V i).natAbs+Ms ((V.take d).drop (i+1)):=by rw[e,Ms];omega
  rw[es];have c1:((i+1:Nat):Int)=(i:Int)+1:=rfl;rw[c1]at h5;rw[ah Br,<-h5];generalize nth V i=z at *;by_cases hz:z<0
  .have c2:((sum+z.natAbs:Nat):Int)=(sum:Int)+-z:=o_;rw[c2];simp(maxSteps:=300000) (disch:=omega)[↓ac,↓aa,hg]
  .have c2:((sum+z.natAbs:Nat):Int)=(sum:Int)+z:=o_;rw[c2];simp(maxSteps:=300000) (disch:=omega)[↓ac,↓aa,hg]
def arf (n m:Nat)(hlo:-1000<=lo∧lo<=1000):∀(j:Nat) (V:G_),j<=4->V.length=4->Sm V->
  (Dn prog).code (.loop mN) ⟨[(1,.ptr 0 0),(2,.ptr 1 0),(3,.ptr 2 0),(9,A_ ((j:Int)-1)),(21,A_ m),(22,A_ n)],
   ⟨[(0,.cells [A_ dm,A_ lo,A_ hi,A_ pl]),(1,.cells cq),(2,.cells (vc V))],N⟩⟩ =
  some (.exit 6,⟨[(1,.ptr 0 0),(2,.ptr 1 0),(3,.ptr 2 0),(21,A_ m),(22,A_ n)],
   ⟨[(0,.cells [A_ dm,A_ lo,A_ hi,A_ pl]),(1,.cells cq),(2,.cells (vc (odo lo hi j V)))],N⟩⟩):=by
 intro j
 induction j with
 |zero =>
  intro V h1 hV hs;rw[ah Bi];simp(maxSteps:=300000) (disch:=omega)[↓ac,↓aa,odo]
 |succ j ih =>
  intro V h1 hV hs;have hg:=anx (V:=V) (i:=j) o_;have hb:=hs (nth V j) (iP o_);have hgs:∀z,(vc (V.set j z))[j]?=some (A_ z):=λz=>by
   rw[vc,bS,tk o_];rfl
  have c1:((j+1:Nat):Int)-1=(j:Int):=o_;have lp:=λz=>agi (V:=V) (i:=j) (z:=z) (by omega)
  have lq:=λy z=>agi (V:=V.set j y) (i:=j) (z:=z) (by simp;omega)
  have hss:∀y z,(V.set j y).set j z=V.set j z:=λy z=>List.set_set ..
  have hl2:∀y,(V.set j y).length=4:=λy=>by simpa using hV
  rw[c1,ah Bi,odo];by_cases h:nth V j+1<=hi
  .rw[ac h];generalize nth V j=z at *;simp(maxSteps:=300000) (disch:=omega)[↓ac,↓aa,hg,QS,lp,lq,hss,hl2,hV,hgs]
  .have h5:=ih (V.set j lo) o_ (by simpa using hV) (λz hz=>by
    rcases gF hz with g|g
    .exact hs z g
    .subst g;omega)
   rw[aa h,<-h5];generalize nth V j=z at *;simp(maxSteps:=300000) (disch:=omega)[↓ac,↓aa,hg,QS,lp,lq,hss,hl2,hV,hgs]
def Xr (lo:Int):Nat->Nat->G_->G_
 |0,_,V=>V
 |k+1,i,V=>Xr lo k (i+1) (V.set i lo)
def apn (d:Nat)(hd:d<=4):∀(k i:Nat) (V:G_),i+k=d->V.length=4->
  (Dn prog).code (.loop mT) ⟨[(1,.ptr 0 0),(2,.ptr 1 0),(3,.ptr 2 0),(11,A_ d),(12,A_ i)],
   ⟨[(0,.cells [A_ dm,A_ lo,A_ hi,A_ pl]),(1,.cells cq),(2,.cells (vc V))],N⟩⟩ =
  some (.exit 0,⟨[(1,.ptr 0 0),(2,.ptr 1 0),(3,.ptr 2 0)],
   ⟨[(0,.cells [A_ dm,A_ lo,A_ hi,A_ pl]),(1,.cells cq),(2,.cells (vc (Xr lo k i V)))],N⟩⟩):=by
 intro k
 induction k with
 |zero =>
  intro i V h1 hV;rw[ah AR];simp(maxSteps:=300000) (disch:=omega)[↓ac,↓aa,Xr]
 |succ k ih =>
  intro i V h1 hV;have lp:=λz=>agi (V:=V) (i:=i) (z:=z) (by omega)
  have h5:=ih (i+1) (V.set i lo) o_ (by simpa using hV);have c1:((i+1:Nat):Int)=(i:Int)+1:=rfl;rw[c1]at h5;rw[ah AR,Xr,<-h5];simp(maxSteps:=300000) (disch:=omega)[↓ac,↓aa,QS,lp,hV]
end
def zy (id n:Nat):G_:=(lT id n++[0,0,0,0]).take 4
def ar9 (id n:Nat):Bool:=decide (odo (da id) (da id+cu id-1) (dX id) (zy id n)=zy id (n+1)) && decide (Ms ((zy id n).take (dX id))=yw id n) && decide (yw id n<=255) &&
 (zy id n).all (λz=>decide (-100000<=z) && decide (z<=100000)) && decide ((zy id n).length=4)
def atZ:∀id∈ids,(List.range (bh id)).all (ar9 id)=true:=e_
def avw {id n:Nat}(h:jf id)(hn:n<bh id):odo (da id) (da id+cu id-1) (dX id) (zy id n)=zy id (n+1)∧Ms ((zy id n).take (dX id))=yw id n∧yw id n<=255∧Sm (zy id n)∧(zy id n).length=4:=by
 have:=bC.1 (atZ id (fK h)) n (by simpa using hn);simp only[ar9,af,decide_eq_true_eq,bC]at this;exact⟨this.1.1.1.1,this.1.1.1.2,this.1.1.2,λz hz=>this.1.2 z hz,this.2⟩
def asd:∀id∈ids,Xr (da id) (dX id) 0 [0,0,0,0]=zy id 0∧dX id<=4∧1<=dX id∧-1000<=da id∧da id<=1000∧bh id<=289:=e_
def tf (id n:Nat):D_:=(List.range 289).map λe=>.d (.int .u8 (if e<n then yw id e else 0:Nat))
def UY {id n:Nat}:(tf id n).length=289:=by simp[tf]
def apL {id n:Nat}(h:n<289):List.take n (tf id n)++AV.d (.int .u8 (yw id n:Nat))::List.drop (n+1) (tf id n)=tf id (n+1):=by
 have e:(tf id n).set n (AV.d (.int .u8 (yw id n:Nat)))=tf id (n+1):=by
  apply dC;intro j;rw[List.getElem?_set];by_cases hj:n=j
  .subst hj;rw[ac rfl,ac (by rw[UY];exact h),tf,bS,kq h];simp
  .rw[aa hj,tf,tf,bS,bS];by_cases hl:j<289
   .rw[kq hl];simp only[ug];by_cases h2:j<n
    .rw[ac h2,ac o_]
    .rw[aa h2,aa o_]
   .rw[gB g_];rfl
 rw[<-e,kX,ac (by rw[UY];exact h)]
def arc (id:Nat)(h:jf id)(pl:Int)(N:Nat):∀(k n:Nat),n+k=bh id->
  (Dn prog).code (.loop mQ) ⟨[(1,.ptr 0 0),(2,.ptr 1 0),(3,.ptr 2 0),(21,A_ (bh id)),(22,A_ n)],
   ⟨[(0,.cells [A_ (dX id),A_ (da id),A_ (da id+cu id-1),A_ pl]),(1,.cells (tf id n)),(2,.cells (vc (zy id n)))],N⟩⟩ =
  some (.exit 2,⟨[(2,.ptr 1 0)],⟨[(1,.cells (tf id (bh id))),(2,.cells (vc (zy id (bh id))))],N⟩⟩):=by
 obtain⟨d0,d1,d2,d3,d4,d5⟩:=asd id (fK h);intro k
 induction k with
 |zero =>
  intro n hn;have:n=bh id:=o_;subst this;rw[ah Bn];simp(maxSteps:=300000) (disch:=omega)[↓ac,↓aa]
 |succ k ih =>
  intro n hn;obtain⟨f1,f2,f3,f4,f5⟩:=avw (n:=n) h o_;have g1:=ap0 (dX id) (da id) (da id+cu id-1) pl (tf id n) N (dX id) n (bh id) d1 (zy id n) f5 f4 (dX id) 0 0 o_ o_;have g2:=arf (dX id) (da id) (da id+cu id-1) pl (tf id (n+1)) N n (bh id) ⟨d3,d4⟩ (dX id) (zy id n) d1 f5 f4;rw[f1]at g2;rw[ll,f2,br]at g1;have h5:=ih (n+1) o_;have c1:((n+1:Nat):Int)=(n:Int)+1:=rfl;have c0:((0:Nat):Int)=0:=rfl;rw[c1]at h5;rw[c0]at g1;have hp:=apL (id:=id) (n:=n) o_;have hl:=QS (V:=zy id n);have ol:=UY (id:=id) (n:=n);rw[ah Bn,<-h5];generalize yw id n=z at *;generalize hA:tf id n=A at *;generalize hB:tf id (n+1)=B at *;generalize zy id n=V at *;generalize zy id (n+1)=W at *;simp(maxSteps:=300000) (disch:=omega)[↓ac,↓aa,g1,g2,hp,AV.int]
def Ka:D_:=List.replicate 289 (.d (.int .u8 0))
def afS:Ka.length=289:=by simp[Ka]
def avz {id:Nat}:tf id 0=Ka:=by
 simp only[tf,Nat.not_lt_zero,bf,Ka];rw[List.map_const',rg];rfl
def apX {id:Nat}:tf id (bh id)=qS id:=rfl
def ayw {x0:AV}{h:am}{n:Nat}:(Dn prog).code mM ⟨[(0,x0)],⟨h,n⟩⟩=fc (dB ((AV.cells x0).all bu) <|lA (put h n (.cells (AV.cells x0))) λh1=>lA (put h1 (n+1) (.cells Ka)) λh2=>some ⟨[(1,.ptr n 0),(2,.ptr (n+1) 0)],⟨h2,n+1+1⟩⟩):=zm
abbrev Dl (Z:D_):Prop:=∀x∈Z,∃d,x=AV.d d
def agh:∀{Z:D_},(fu 1 Z).1=Z
 |[]=>rfl
 |v::r=>by rw[fu,agh];rfl
def agF {h:am}:∀{Z:D_},Dl Z->qI h Z=some (Z,h)
 |[],_=>rfl
 |v::r,hz=>by
  obtain⟨d,rfl⟩:=hz v (.head _);have h1:jT h (.d d)=some (.d d,h):=rfl;rw[qI,h1];simp only[agF (Z:=r) λx hx=>hz x (.tail _ hx)]
def adu:∀{Z:D_},Dl Z->Z.map nB=Z
 |[],_=>rfl
 |v::r,hz=>by
  obtain⟨d,rfl⟩:=hz v (.head _);rw[b9,adu λx hx=>hz x (.tail _ hx)];rfl
def asA {id:Nat}:Dl (qS id):=by
 intro x hx;simp only[qS,dh]at hx;obtain⟨e,_,rfl⟩:=hx;exact⟨_,rfl⟩
def Wf (id:Nat)(h:jf id):bq prog gn [SK id]=some (.agg (qS id)):=by
 have hin:=fK h;obtain⟨d0,d1,d2,d3,d4,d5⟩:=asd id hin;have hm:=FX id hin;have h0:=apn (dX id) (da id) (da id+cu id-1) (bI id) Ka 3 (dX id) d1 (dX id) 0 [0,0,0,0] o_ rfl;have h3:=arc id h (bI id) 3 (bh id) 0 o_;have c0:((0:Nat):Int)=0:=rfl;have v0:vc [0,0,0,0]=[A_ 0,A_ 0,A_ 0,A_ 0]:=rfl;rw[d0,c0,v0]at h0;rw[avz,apX,c0]at h3;have zl:=Zr (id:=id);have zr:=λh=>agF (h:=h) (asA (id:=id))
 have zb:=adu (asA (id:=id));have zt:List.take 289 (qS id)=qS id:=cg o_;have z1:=agh (Z:=qS id);simp only[SK]at hm⊢;rw[aU SI Ss rfl];generalize qS id=Z at *;generalize vc (zy id 0)=V0 at *;generalize vc (zy id (bh id))=V1 at *;generalize bI id=pl at *;generalize dX id=dm at *;generalize da id=lo at *;generalize cu id=wi at *;generalize bh id=n at *;simp(maxSteps:=300000) (disch:=omega)[↓ac,↓aa,hm,h0,h3,-zm,ayw,zt,z1,zr];exact λ_=>zb
def al3 {hp:C_->am}{D L:Nat}{F:AV}{C:Nat->Nat->Int}(H:Hp hp D)(K:Cm hp L F C)(n:Nat)(hlen:n<=1000000000)(hn:n % 20≠0)(N:Nat)(xs:C_)(hx:xs.length=n)(u:eE L xs) :
  (Dn prog).call rO [.sl D 0 n,F] ⟨hp xs,N⟩=some (.tup [],⟨hp (q7 C n xs),N⟩):=by
 have h:=am0 H K n hlen hn N xs hx u;rw[ba CJ CC rfl];simp(maxSteps:=300000) (disch:=omega)[↓ac,↓aa,K.sh,K.fi,h]
def ax9 {x2:AV}{x4:AV}{x6:AV}{h:am}{n:Nat}:(Dn prog).code yy ⟨[(2,x2),(4,x4),(6,x6)],⟨h,n⟩⟩=fc (bP (loadAt h (some 4) 1 (share x4)) λa1 h2=>bA (ep (Dn prog) gn [firm a1] h2) λa3=>lA (put h2 n (.cells Ka)) λh4=>bA (storeAt h4 289 (.ptr n 0) (firm a3)) λh5=>some ⟨[(2,x2),(4,x4),(6,x6),(7,.ptr n 0)],⟨h5,n+1⟩⟩):=Ku
def aeZ {W Z:D_}(h:W.length=Z.length):aE W 0 Z=Z:=by simp[aE,<-h]
def afK {id:Nat}:(qS id).all bu=true:=by
 rw[bC];intro x hx;simp only[qS,dh]at hx;obtain⟨e,_,rfl⟩:=hx;rfl
def afh {id:Nat}:(qS id).map nU=qS id:=by
 simp only[qS,sv];rfl
def ap5 {n:Nat}:List.replicate n [D.int .i64 0]=cN (List.replicate n 0):=by simp[cN]
def amT (id:Nat)(h:jf id):bq prog FO [A_ id]=some (.tup [Xk id,A_ 0]):=by
 have hin:=fK h;obtain⟨m1,m2,m3⟩:=ai2 id hin;obtain⟨e1,e2,e3⟩:=aiY id hin;have hR:=aub id hin;have t1:List.take (bh id) (b8 id)=b8 id:=cg o_;have t2:List.take (bh id) (dy id)=dy id:=cg o_;have hst:=awc id h;have ho:=Na id hin;have hm:=FX id hin;have hz:=Wf id h;have zl:=Zr (id:=id);have zc:=afK (id:=id);have zf:=afh (id:=id);have z9:=afS;have zd:List.drop (qS id).length Ka=[]:=cH o_;have hu:eE (bh id) (b8 id):=λx hx=>by simpa using bC.1 e3 x hx
 have hs:=λa b c d x0 x1 R N=>al3 (hp:=λxs=>[(0,.cells [a,b,c,d]),(2,.arr 1 (cN xs)),(3,.arr 1 (cN R)),(4,.cells [.d x0,.d x1,.sl 2 0 (bh id),.sl 3 0 (bh id)]),(5,.cells (qS id))]) (D:=2)
  ⟨λxs=>rfl,λxs ys=>rfl⟩ (aBk (S:=5) (λxs=>rfl) m1) (bh id) o_ m2 N (List.range (bh id)) s_ (λx hx=>by simpa using hx)
 have h0:=λa b c d x0 x1 R N=>agX (bh id) (qS id) m1 R a b c d x0 x1 N (bh id) 0 (by omega)
 have h1:=λa b c d x0 x1 N=>aib (bh id) (qS id) m1 (b8 id) e1 hu a b c d x0 x1 N (bh id) 0 (List.replicate (bh id) 0) o_ (by simp)
 have hup:Eq (bh id) (bh id)=List.range (bh id):=by simp[Eq]
 have hu0:Eq (bh id) 0=List.replicate (bh id) 0:=by simp[Eq]
 rw[hup,hu0]at h0;simp only[hst,hR,SK]at hs h1 ho hm hz;rw[aU akP akL rfl];have hid:(1:Int)<=id∧(id:Int)<=12:=o_;have c0:((0:Nat):Int)=0:=rfl;rw[c0]at h0 h1;simp only[Xk];generalize qS id=Z at *;generalize b8 id=es at *;generalize dy id=rs at *;generalize bI id=pl at *;generalize dX id=dm at *;generalize da id=lo at *;generalize cu id=wi at *;generalize bh id=n at *;simp(maxSteps:=300000) (disch:=omega)[↓ac,↓aa,ho,hm,hz,h0,hs,h1,-Ku,ax9,aeZ,zc,zf,zd,Cl,ap5,AV.int,t1,t2]
def j8 (id:Nat):Bool:=decide (da id<0)
def OZ:∀x∈ids.take 11,bq prog abW [A_ x]=some (B_ (j8 x)):=Gv 100 _ (by kernel_rfl)
section
variable (id:Nat)
end
section
variable (n:Nat)(sz:C_)(hz:sz.length=n)(hn2:n<=289)(a b c d:AV)(x0 x1:D)(N:Nat)
include hz hn2
end
def okR (sz es rs:C_)(i:Nat):Bool:=Nat.beq (mo rs (mo es i)) i &&
 (Nat.beq i 0 ||Nat.blt (mo sz (mo es (i-1))) (mo sz (mo es i)) ||(Nat.beq (mo sz (mo es (i-1))) (mo sz (mo es i)) && Nat.blt (mo es (i-1)) (mo es i)))
def auh:∀id∈ids,(List.range (bh id)).all (okR (jr id) (b8 id) (dy id))=true:=e_
def aob {id i:Nat}(h:jf id)(hi:i<bh id):nth (dy id) (nth (b8 id) i)=i∧(i≠0->nth (jr id) (nth (b8 id) (i-1))<nth (jr id) (nth (b8 id) i)∨(nth (jr id) (nth (b8 id) (i-1))=nth (jr id) (nth (b8 id) i)∧nth (b8 id) (i-1)<nth (b8 id) i)):=by
 have:=bC.1 (auh id (fK h)) i (by simpa using hi);simp only[okR,zj,af,cR,aC,Nat.blt,bg]at this;refine⟨this.1,λh0=>?_⟩;rcases this.2 with (h1|h1)|h1
 .exact absurd h1 h0
 .exact .inl h1
 .exact .inr h1
section
variable (n:Nat)(hn:n<=289)(sz es rs:C_)(Z:D_)(he:es.length=n)(hr:rs.length=n)(hu:eE n es)(hZ:∀x,x<n->Z[x]?=some (.d (.int .u8 (nth sz x:Nat))))
 (h1:∀i,i<n->nth rs (nth es i)=i)(h2:∀i,i+1<n->nth sz (nth es i)<nth sz (nth es (i+1))∨(nth sz (nth es i)=nth sz (nth es (i+1))∧nth es i<nth es (i+1)))
include hn he hr hu hZ h1 h2
theorem acT (x0 x1:D)(N:Nat):∀(k i:Nat),i+k=n->
  (Dn prog).code (.loop uB) ⟨[(1,.ptr 0 0),(5,.ptr 2 0),(43,.d (.lst (cN es))),(44,A_ n),(45,A_ i)],⟨[(0,.cells [.d x0,.d x1,.d (.lst (cN es)),.d (.lst (cN rs))]),(2,.cells Z)],N⟩⟩ =
  some (.exit 0,⟨[],⟨[],N⟩⟩):=by
 intro k
 induction k with
 |zero =>
  intro i h;rw[ah IH];simp(maxSteps:=300000) (disch:=omega)[↓ac,↓aa]
 |succ k ih =>
  intro i h;have hv:=hu.nth (i:=i) o_;have e1:=hZ _ hv;have r1:=h1 i o_;have h5:=ih (i+1) o_;have c1:((i+1:Nat):Int)=(i:Int)+1:=rfl;rw[c1]at h5;rw[ah IH,<-h5];by_cases h0:i=0
  .subst h0;have c0:((0:Nat):Int)=0:=rfl;rw[c0];have n0:(0:Int)=((0:Nat):Int):=rfl;simp(maxSteps:=300000) (disch:=omega)[↓ac,↓aa,r1]
  .obtain⟨q,rfl⟩:∃q,i=q+1:=⟨i-1,o_⟩
   have hw:=hu.nth (i:=q) o_;have e2:=hZ _ hw;rcases h2 q o_ with g|⟨g1,g2⟩
   .simp(maxSteps:=300000) (disch:=omega)[↓ac,↓aa,r1,e1,e2]
   .simp(maxSteps:=300000) (disch:=omega)[↓ac,↓aa,r1,e1,e2]
end
def ay4 {x1:AV}{x3:AV}{h:am}{n:Nat}:(Dn prog).code ut ⟨[(1,x1),(3,x3)],⟨h,n⟩⟩=fc (bP (loadAt h (some 4) 1 (share x3)) λa1 h2=>bA (ep (Dn prog) gn [firm a1] h2) λa3=>lA (put h2 n (.cells Ka)) λh4=>bA (storeAt h4 289 (.ptr n 0) (firm a3)) λh5=>some ⟨[(1,x1),(3,x3),(5,.ptr n 0)],⟨h5,n+1⟩⟩):=GK
def ait (id:Nat)(h:jf id):bq prog Gu [mS id]=some (B_ true):=by
 have hin:=fK h;obtain⟨m1,m2,m3⟩:=ai2 id hin;obtain⟨e1,e2,e3⟩:=aiY id hin;have ho:=Na id hin;have hm:=FX id hin;have hz:=Wf id h;have zl:=Zr (id:=id);have zc:=afK (id:=id);have zf:=afh (id:=id);have z9:=afS;have zd:List.drop (qS id).length Ka=[]:=cH o_;have hu:eE (bh id) (b8 id):=λx hx=>by simpa using bC.1 e3 x hx
 have h0:=λx0 x1 N=>acT (bh id) m1 (jr id) (b8 id) (dy id) (qS id) e1 e2 hu (λx hx=>ZS hx m1) (λi hi=>(aob h hi).1) (λi hi=>by have:=(aob h hi).2 o_;simpa using this) x0 x1 N (bh id) 0 (by omega)
 simp only[SK]at ho hm hz;rw[aU afU afa rfl];have hid:(1:Int)<=id∧(id:Int)<=12:=o_;have c0:((0:Nat):Int)=0:=rfl;rw[c0]at h0;simp only[mS];generalize qS id=Z at *;generalize jr id=zs at *;generalize b8 id=es at *;generalize dy id=rs at *;generalize bI id=pl at *;generalize dX id=dm at *;generalize da id=lo at *;generalize cu id=wi at *;generalize bh id=n at *;simp(maxSteps:=300000) (disch:=omega)[↓ac,↓aa,ho,hm,hz,h0,-GK,ay4,aeZ,zc,zf,zd,AV.int,e1,e2]
def lG (b:C_):Nat->Nat->Int->R Nat
 |0,_,_=>.er 7
 |f+1,m,a=>(bb b a 1).bind λv n=>if v=1 then .ok m n else lG b f (m+1) n
abbrev pZ (b:C_)(m n:Nat):Prop:=m<=9∧n<=b.length
def aeR {b:C_}:∀{f m k n:Nat}{a:Int},f+m=10->lG b f m a=.ok k n->pZ b k n
 |0,_,_,_,_,_,h=>absurd h (by simp[lG])
 |f+1,m,k,n,a,hf,h=>by
  rw[lG]at h
  cases h1:bb b a 1 with
  |er e=>rw[h1]at h;exact absurd h (by simp)
  |ok v a1 =>
   rw[h1,ax]at h;by_cases hv:v=1
   .rw[ac hv]at h;injection h with e1 e2
    subst e1 e2;exact⟨o_,(dU h1).2⟩
   .rw[aa hv]at h;exact aeR o_ h
def apT {α γ:Type}{p:α->Nat->Prop}{b:C_}{f m:Nat}{a:Int}{g:Nat->Nat->R α}{F:α->Nat->γ}{G:Nat->γ}(h:f+m=10):rK p ((lG b f m a).bind g) F G=rK (pZ b) (lG b f m a) (λv n=>rK p (g v n) F G) G:=ww λ_ _ h2=>aeR h h2
def aod {γ:Type}{b:C_}{f m:Nat}{a:Int}{F:Nat->Nat->γ}{G:Nat->γ}(h:f+1+m=10):rK (pZ b) (lG b (f+1) m a) F G=rK (pG b 1) (bb b a 1) (λv n=>if v=1 then F m n else rK (pZ b) (lG b f (m+1) n) F G) G:=by
 rw[lG,G6];refine jv (λ_ _=>rfl) (λv n hp=>?_) λ_=>rfl
 by_cases hv:v=1
 .rw[ac hv,ac hv,eD ⟨o_,hp.2⟩]
 .rw[aa hv,aa hv]
def yi (id:Nat)(b:C_)(a:Int):R Nat :=
 (lG b 10 0 a).bind λm n=>(bb b n m).bind λhi n=>(bb b n (bI id)).bind λlo n =>
  if (b8 id).length<=(2 ^ m+hi-1)*2 ^ bI id+lo then .er 7 else .ok (nth (b8 id) ((2 ^ m+hi-1)*2 ^ bI id+lo)) n
def aeY (b:C_)(hb:b.length<=1000000000)(X:Obj)(N:Nat):∀(f m:Nat) (a:Int),f+m=10->i64 a->
  (Dn prog).code (.loop wN) ⟨[(1,.d (.lst (ak b))),(3,.ptr 0 0),(7,A_ a),(9,A_ m),(10,A_ 0)],⟨[(0,X)],N⟩⟩ =
  rK (pZ b) (lG b f m a) (λm n=>some (.exit 0,⟨[(1,.d (.lst (ak b))),(3,.ptr 0 0),(7,A_ n),(9,A_ ((m+1:Nat):Int))],⟨[(0,X)],N⟩⟩)) (λe=>some (.ret,⟨[(6,A_ 0),(7,A_ 0),(8,A_ (e+1))],⟨[],N⟩⟩)):=by
 intro f
 induction f with
 |zero =>
  intro m a hf ha;rw[ah CP,lG];simp(maxSteps:=300000) (disch:=omega)[↓ac,↓aa]
 |succ f ih =>
  intro m a hf ha;rw[ah CP,aod hf];simp(maxSteps:=300000) (disch:=omega)[↓ac,↓aa,gW];refine jv (λ_ _=>rfl) (λv n hp=>?_) λ_=>rfl
  have hp4:v<2:=hp.1;by_cases h4:v=1
  .subst h4;rw[ac rfl,ah CP];simp(maxSteps:=300000) (disch:=omega)[↓ac,↓aa]
  .have h5:v=0:=o_;subst h5;have h:=ih (m+1) n o_ o_;rw[aa h4];simp at h⊢;exact h
def Wb (id:Nat)(h:jf id):bq prog Gu [mS id]=some (B_ true):=ait id h
def Vc (id:Nat)(h:jf id):bq prog FO [A_ id]=some (.tup [Xk id,A_ 0]):=amT id h
def ap4 {γ:Type}{id:Nat}{b:C_}{a:Int}(hid:jf id){F:Nat->Nat->γ}{G:Nat->γ}:rK (λe n=>e<bh id∧n<=b.length) (yi id b a) F G =
  rK (pZ b) (lG b 10 0 a) (λm n=>rK (pG b m) (bb b n m) (λhi n=>rK (pG b (bI id)) (bb b n (bI id)) (λlo n =>
  if (b8 id).length<=(2 ^ m+hi-1)*2 ^ bI id+lo then G 7 else F (nth (b8 id) ((2 ^ m+hi-1)*2 ^ bI id+lo)) n) G) G) G:=by
 rw[yi,apT rfl];refine jv (λ_ _=>rfl) (λm n hp=>?_) λ_=>rfl
 rw[G6];refine jv (λ_ _=>rfl) (λhi n hp=>?_) λ_=>rfl
 rw[G6];refine jv (λ_ _=>rfl) (λlo n hp=>?_) λ_=>rfl
 by_cases hr:(b8 id).length<=(2 ^ m+hi-1)*2 ^ bI id+lo
 .rw[ac hr,ac hr,ie]
 .rw[aa hr,aa hr,eD];exact⟨(IZ o_).2.2.2 _ (iP o_),hp.2⟩
abbrev Cn:VC:=(.seq (.seq As (.cond (.m 73) (.seq (.seq (K [7,13]) (F 3)) (.seq Bt .ret)) .skip)) (.seq (.seq Bh (F 3)) .ret))
def RX {m:Nat}(h:m<=60):fg .shl (A_ 1) (A_ m)=some (.int .i64 ((2 ^ m:Nat):Int)):=by
 have h2:2 ^ m<=2 ^ 60:=aw o_ h;have h3:min m 64=m:=o_;rw[qZ o_,aq,IntKind.bits,h3];generalize 2 ^ m=P at *;rw[ae6 o_ o_,Int.one_mul]
def ake {x:Int}{m P:Nat}(hP:2 ^ m=P)(hm:m<=60)(h0:0<=x)(h1:x*P<=4611686018427387904):fg .shl (A_ x) (A_ m)=some (.int .i64 (x*P)):=by
 subst hP;have h2:2 ^ m<=2 ^ 60:=aw o_ hm;have h3:min m 64=m:=o_;rw[qZ o_,aq,IntKind.bits,h3];have:0<=x*((2 ^ m:Nat):Int):=Int.mul_nonneg h0 (pQ _);generalize x*((2 ^ m:Nat):Int)=y at *;rw[ae6 o_ o_]
def aw6 {x:Int}(h0:0<=x)(h1:x<=100000000):fg .shl (A_ x) (A_ 0)=some (.int .i64 x):=by
 have:=ake (x:=x) (m:=0) (P:=1) rfl o_ h0 o_;simpa using this
def awv {x:Int}(h0:0<=x)(h1:x<=100000000):fg .shl (A_ x) (A_ 1)=some (.int .i64 (x*2)):=by
 have:=ake (x:=x) (m:=1) (P:=2) rfl o_ h0 o_;simpa using this
def awi {x:Int}(h0:0<=x)(h1:x<=100000000):fg .shl (A_ x) (A_ 2)=some (.int .i64 (x*4)):=by
 have:=ake (x:=x) (m:=2) (P:=4) rfl o_ h0 o_;simpa using this
def aao (id:Nat)(b:C_)(a:Int)(hb:b.length<=1000000000)(ha:i64 a)(hid:jf id):bq prog TJ [mS id,.d (.lst (ak b)),A_ a] =
  rK (λe n=>e<bh id∧n<=b.length) (yi id b a) (λe n=>some (.tup [A_ e,A_ n,A_ 0])) (λe=>some (.tup [A_ 0,A_ 0,A_ (e+1)])):=by
 have hr:=Wb id hid;have hf:=IZ (id:=id) o_;rw[aU agT ais rfl,ap4 hid];have hl:=λX N=>aeY b hb X N 10 0 a rfl ha
 have c0:((0:Nat):Int)=0:=rfl;simp only[c0]at hl;simp only[mS]at hr⊢;obtain⟨f1,f2,f3,-⟩:=hf;generalize b8 id=es at *;generalize dy id=rs at *;generalize bI id=pl at *;simp(maxSteps:=300000) (disch:=omega)[↓ac,↓aa,hr,hl];refine jv (λ_ _=>rfl) (λm n hp=>?_) λ_=>rfl
 have hp2:2 ^ m<=2 ^ 9:=aw o_ hp.1;have e1:(m:Int)+1-1=m:=o_;have hs1:=RX (m:=m) o_;have hp1:=hp.1;have hpos:0<2 ^ m:=bM m;have c1:((1:Nat):Int)=1:=rfl;have c2:((2:Nat):Int)=2:=rfl;generalize hP:2 ^ m=P at *;have fin:∀(x:Nat) (n:Nat) (i1 p:Int),x<=100000->sf (vD [.tmp 6,.tmp 7,.tmp 8] ((Dn prog).code (Cn) ⟨[(3,.ptr 0 0),(7,A_ n),(13,A_ x)],⟨[(0,.cells [A_ i1,A_ p,.d (.lst (cN es)),.d (.lst (cN rs))])],1⟩⟩)) =
   if es.length<=x then some (.tup [A_ 0,A_ 0,A_ 8]) else some (.tup [A_ ((nth es x:Nat):Int),A_ n,A_ 0]):=λx n i1 p hx=>by
  by_cases hr:es.length<=x
  .rw[ac hr];simp(maxSteps:=300000) (disch:=omega)[↓ac]
  .rw[aa hr];simp(maxSteps:=300000) (disch:=omega)[↓aa]
 have hpl:pl=0∨pl=1∨pl=2:=o_;obtain⟨T,ht⟩:∃T,T=Cn:=⟨_,rfl⟩
 rw[<-ht]at fin;unfold Cn at ht;rw[<-ht];rcases hpl with rfl|rfl|rfl
 all_goals
  simp(maxSteps:=300000) (disch:=omega)[↓ac,↓aa,gW,e1,-qZ,hs1];refine jv (λ_ _=>rfl) (λhi n hp=>?_) λ_=>rfl
  refine jv (λ_ _=>rfl) (λlo n hq=>?_) λ_=>rfl
  have h1:hi<P:=hP▸hp.1;have h2:lo<4:=aZ hq.1 k_;simp(maxSteps:=300000) (disch:=omega)[-qZ,aw6,awv,awi]
 .have e3:((P+hi-1+lo:Nat):Int)=P+hi-1+lo:=o_;rw[<-e3,fin _ n id 0 o_]
 .have e3:(((P+hi-1)*2+lo:Nat):Int)=(P+hi-1)*2+lo:=o_;rw[<-e3,fin _ n id 1 o_]
 .have e3:(((P+hi-1)*4+lo:Nat):Int)=(P+hi-1)*4+lo:=o_;rw[<-e3,fin _ n id 2 o_]
abbrev bY:=@List.singleton_append
def lj:∀id∈ids,1<=dX id∧dX id<=4∧1<=cu id∧cu id<=121∧-60<=da id∧da id<=0∧bh id<=300:=e_
def aaq (dim low pl:Int)(w:Nat)(hw:w<=1000)(hl:-1000<=low∧low<=1000):bq prog sT [.agg [A_ dim,A_ low,A_ (low+w-1),A_ pl]]=some (A_ w):=by
 rw[aU Ut Vr rfl];have e:low+(w:Int)-1-low+1=w:=o_;simp(disch:=omega)[e]
def td (e w:Nat):(e:Int).tdiv w=((e / w:Nat):Int):=rfl
def tm (e w:Nat):(e:Int).tmod w=((e % w:Nat):Int):=rfl
def asN {j:Nat}{x:Int}{suf:G_}:(List.replicate (j+1) (0:Int)++suf).set j x=List.replicate j 0++x::suf:=by
 rw[List.replicate_succ',ay,mW _ _ s_];simp
def Y5 (low:Int)(w pl dim:Nat)(hw:1<=w∧w<=1000)(hl:-1000<=low∧low<=1000):∀(j e:Nat) (suf:G_),j+suf.length=dim->dim<=10->e<=100000->
  (Dn prog).code (.loop lO) ⟨[(1,A_ e),(2,.ptr 0 0),(5,.sl 1 0 dim),(6,A_ (j-1))],⟨[(0,.cells [A_ dim,A_ low,A_ (low+w-1),A_ pl]),(1,.arr 1 (aF (List.replicate j 0++suf)))],2⟩⟩ =
   some (.exit 0,⟨[(5,.sl 1 0 dim)],⟨[(1,.arr 1 (aF (kY low w j e++suf)))],2⟩⟩):=by
 intro j
 induction j with
 |zero =>
  intro e suf h1 h2 h3;rw[ah zL];simp(disch:=omega)[↓aa,kY]
 |succ j ih =>
  intro e suf h1 h2 h3;have hm:e % w<w:=dO _ o_;have hd:e / w<=e:=kC _ _;have h:=ih (e / w) ((((e % w:Nat):Int)+low)::suf) g_ h2 o_;rw[kY,ay,bY,<-h,<-asN,ah zL];have hk:=aaq dim low pl w o_ hl;have e1:((j+1:Nat):Int)-1=j:=o_;have hg:(aF (List.replicate (j+1) 0++suf))[j]?=some [.int .i64 (nth (List.replicate (j+1) 0++suf) j)]:=HA g_;simp only[e1];have td:=td e w;have tm:=tm e w;generalize hL:List.replicate (j+1) (0:Int)++suf=L at *;generalize e / w=q at *;generalize e % w=r at *;clear ih h;simp(maxSteps:=300000) (disch:=omega)[↓ac,hk,td,tm,hg]
def T7 (id e:Nat)(h:jf id)(he:e<=100000):bq prog DS [SK id,A_ e]=some (.own true 1 (aF (lT id e))):=by
 obtain⟨k1,k2,k3,k4,k5,k6,k7⟩:=lj id (fK h);have hl:=Y5 (da id) (cu id) (bI id) (dX id) o_ o_ (dX id) e [] s_ o_ he;rw[aU QK PZ rfl];simp only[SK,lT,be]at hl⊢;have hr:aF (List.replicate (dX id) 0)=List.replicate (dX id) [D.int .i64 0]:=by simp[aF]
 rw[hr]at hl;have hv:(kY (da id) (cu id) (dX id) e).length=dX id:=by
  have:∀(d e:Nat),(kY (da id) (cu id) d e).length=d:=by
   intro d
   induction d with
   |zero=>intro e;rfl
   |succ d ih=>intro e;simp[kY,ih]
  exact this _ _
 generalize da id=low at *;generalize cu id=w at *;generalize dX id=dim at *;generalize bI id=pl at *;generalize kY low w dim e=V at *;simp(maxSteps:=300000) (disch:=omega)[hl,Cl];exact⟨o_,by rw[cg o_]⟩
def SU (id e:Nat)(h:jf id)(he:e<bh id):bq prog Nz [A_ id,A_ e]=some (.tup [.own true 1 (aF (lT id e)),A_ 0]):=by
 obtain⟨k1,k2,k3,k4,k5,k6,k7⟩:=lj id (fK h);have h1:=Na id (fK h);have h2:=FX id (fK h);have h3:=T7 id e h o_;rw[aU acd abI rfl];simp only[SK]at h1 h2 h3;generalize da id=low at *;generalize cu id=w at *;generalize dX id=dim at *;generalize bI id=pl at *;generalize bh id=mn at *;generalize lT id e=V at *;simp(maxSteps:=300000) (disch:=omega)[h1,h2,h3,↓aa]
def rN (b:C_)(st:RS)(s:Int):RS:=if st.e=0 then (if eO b st.a s=0 then ⟨nO b st.a s,0⟩ else ⟨st.a,eO b st.a s⟩) else st
theorem QU {b:C_}{st:RS}{s:Int}(hb:b.length<=1000000000)(h:st.fit):(rN b st s).fit:=by
 unfold rN;have:=alH (b:=b) (a:=st.a) (s:=s);have h2:i64 st.a:=h;split
 .split
  .show i64 _;simp only[];omega
  .exact h
 .exact h
abbrev rdC (b:C_)(st:RS):Obj:=.cells [.d (.lst (ak b)),A_ (ra st),A_ (re st)]
abbrev h4 (b:C_)(X0 X1 X3:Obj)(st:RS):am:=[(0,X0),(1,X1),(2,rdC b st),(3,X3)]
def LT (b:C_)(hb:b.length<=1000000000)(X0 X1 X3:Obj)(N:Nat)(st:RS)(s:Int)(hf:st.fit):(Dn prog).call xp [.ptr 2 0,A_ s] ⟨h4 b X0 X1 X3 st,N⟩ =
  some (A_ (sV b st s),⟨h4 b X0 X1 X3 (rN b st s),N⟩):=by
 rw[ba Sz Sw rfl];obtain⟨a,e⟩:=st;have hf:i64 a:=hf;by_cases he:e=0
 .subst he;by_cases h2:eO b a s=0
  .simp(config := { maxSteps:=1000000 }) (disch:=omega)[Iy,ra,re,sV,rN,h2]
  .simp(config := { maxSteps:=1000000 }) (disch:=omega)[Iy,ra,re,sV,rN,h2]
 .simp(config := { maxSteps:=1000000 }) (disch:=omega)[ra,re,sV,rN,he]
def iJ (b:C_):Nat->Nat->RS->Nat×RS
 |0,m,st=>(m,st)
 |f+1,m,st=>if sV b st 1=1∧re (rN b st 1)=0 then iJ b f (m+1) (if 8<m+1 then ⟨ra (rN b st 1),8⟩ else rN b st 1) else (m,rN b st 1)
def SF (b:C_)(hb:b.length<=1000000000)(X0 X1 X3:Obj)(N:Nat):∀(f m:Nat) (st:RS),f+m=10->m<=9->st.fit->(m=9->st.e≠0)->
  (Dn prog).code (.loop jD) ⟨[(0,.ptr 2 0),(3,A_ m)],⟨h4 b X0 X1 X3 st,N⟩⟩ =
  some (.exit 0,⟨[(0,.ptr 2 0),(3,A_ ((iJ b f m st).1))],⟨h4 b X0 X1 X3 (iJ b f m st).2,N⟩⟩):=by
 intro f
 induction f with
 |zero=>intro m st h1 h0 h2 h3;omega
 |succ f ih =>
  intro m st h1 h0 h2 h3;rw[ah H9,iJ];have hg:=LT b hb X0 X1 X3 N st 1 h2;have hf:=QU (s:=1) hb h2;simp only[h4]at hg;by_cases hc:sV b st 1=1∧re (rN b st 1)=0
  .rw[ac hc];have he:st.e=0:=by
    have:=hc.1;unfold sV at this;by_cases h:st.e=0
    .exact h
    .rw[aa h]at this;omega
   have hm:m≠9:=λh=>h3 h he
   by_cases h8:8<m+1
   .rw[ac h8];have ih:=ih (m+1) ⟨ra (rN b st 1),8⟩ o_ o_ hf (λ_=>by simp);simp only[h4,show ra (⟨ra (rN b st 1),8⟩:RS)=ra (rN b st 1) from rfl,show re (⟨ra (rN b st 1),8⟩:RS)=8 from rfl]at ih⊢;rw[<-ih];simp(maxSteps:=300000) (disch:=omega)[hg,hc.1,hc.2,↓ac,↓aa];rfl
   .rw[aa h8];have ih:=ih (m+1) (rN b st 1) o_ o_ hf (λh=>by omega);simp only[h4]at ih⊢;rw[<-ih];simp(maxSteps:=300000) (disch:=omega)[hg,hc.1,hc.2,↓ac,↓aa]
  .rw[aa hc];by_cases h1:sV b st 1=1
   .have h2:¬re (rN b st 1)=0:=λh=>hc ⟨h1,h⟩
    simp(maxSteps:=300000) (disch:=omega)[hg,h1,h2,↓ac,↓aa]
   .simp(maxSteps:=300000) (disch:=omega)[hg,h1,↓ac,↓aa]
def Va {b:C_}:∀{f m:Nat}{st:RS},(iJ b f m st).1<=m+f
 |0,m,st=>by simp[iJ]
 |f+1,m,st=>by
  rw[iJ];split
  .have:=Va (b:=b) (f:=f) (m:=m+1) (st:=if 8<m+1 then ⟨ra (rN b st 1),8⟩ else rN b st 1);omega
  .simp only[];omega
def Pd {b:C_}(hb:b.length<=1000000000):∀{f m:Nat}{st:RS},st.fit->(iJ b f m st).2.fit
 |0,m,st,h=>by simpa [iJ] using h
 |f+1,m,st,h=>by
  have hr:=QU (s:=1) hb h;rw[iJ];split
  .refine Pd hb ?_;split
   .exact hr
   .exact hr
  .exact hr
def Q4 (b:C_)(st:RS):Nat:=2 ^ ((iJ b 10 0 st).1+4)+sV b (iJ b 10 0 st).2 (((iJ b 10 0 st).1+4:Nat):Int)
def E1 (b:C_)(st:RS):RS:=rN b (iJ b 10 0 st).2 (((iJ b 10 0 st).1+4:Nat):Int)
def apl {b:C_}{st:RS}(hb:b.length<=1000000000)(h:st.fit):(E1 b st).fit:=QU hb (Pd hb h)
def aiU {b:C_}{st:RS}:Q4 b st<32768:=by
 unfold Q4;have h1:=Va (b:=b) (f:=10) (m:=0) (st:=st);have h2:=uL (b:=b) (st:=(iJ b 10 0 st).2) (s:=(((iJ b 10 0 st).1+4:Nat):Int));rw[aq]at h2;have h3:2 ^ ((iJ b 10 0 st).1+4)<=2 ^ 14:=aw o_ o_;omega
def Yt (b:C_)(hb:b.length<=1000000000)(X0 X1 X3:Obj)(N:Nat)(st:RS)(hf:st.fit):(Dn prog).call zG [.ptr 2 0] ⟨h4 b X0 X1 X3 st,N⟩ =
  some (A_ (Q4 b st),⟨h4 b X0 X1 X3 (E1 b st),N⟩):=by
 rw[ba Ld Li rfl];have hl:=SF b hb X0 X1 X3 N 10 0 st rfl o_ hf o_;have hv:=aiU (b:=b) (st:=st);have h1:=Va (b:=b) (f:=10) (m:=0) (st:=st);have hf2:=Pd (f:=10) (m:=0) hb hf;unfold Q4 E1 at *;generalize iJ b 10 0 st=p at *;obtain⟨m,s2⟩:=p;simp only at hl hv h1 hf2⊢;have hg:=LT b hb X0 X1 X3 N s2 ((m+4:Nat):Int) hf2;have c0:((0:Nat):Int)=0:=rfl;have hs:=RX (m:=m+4) o_;have c1:((m+4:Nat):Int)=(m:Int)+4:=o_;simp only[c0,h4,c1]at hl hg hs;have hpos:0<2 ^ (m+4):=bM _;have c2:((2 ^ (m+4)+sV b s2 ((m:Int)+4):Nat):Int)=((2 ^ (m+4):Nat):Int)+sV b s2 ((m:Int)+4):=o_;simp only[h4,c1,c2];rw[c1]at hv;generalize 2 ^ (m+4)=P at *;simp(maxSteps:=300000) (disch:=omega)[hl,hg,hs,-qZ]
def zJ (b:C_):G_->RS->C_
 |[],_=>[]
 |v::r,st=>if v=0 then 0::zJ b r st else sV b st 1::zJ b r (rN b st 1)
def ur (b:C_):G_->RS->RS
 |[],st=>st
 |v::r,st=>if v=0 then ur b r st else ur b r (rN b st 1)
def sg (s:Nat)(v:Int):Int:=if s=1 then -v else v
def Hh (b:C_)(id:Nat):G_->C_->RS->G_
 |v::r,s::ss,st=>if id=11∧v=16 then sg s (Q4 b st)::Hh b id r ss (E1 b st) else sg s v::Hh b id r ss st
 |_,_,_=>[]
def xB (b:C_)(id:Nat):G_->C_->RS->RS
 |v::r,_::ss,st=>if id=11∧v=16 then xB b id r ss (E1 b st) else xB b id r ss st
 |_,_,st=>st
def Rv {α:Type}{a r:List α}{x y:α}:(a++x::r).set a.length y=a++y::r:=by
 rw[mW _ _ o_];simp
def arH {a r:C_}{x:Nat}:nth (a++x::r) a.length=x:=by simp[nth]
def U2 {a r:G_}{x:Int}:nth (a++x::r) a.length=x:=by simp[nth]
def ahb (b:C_)(hb:b.length<=1000000000)(X0:Obj)(N:Nat)(vals:G_)(hl:vals.length<=100):∀(vs:G_) (pre:G_) (sgn:C_) (st:RS),vals=pre++vs->sgn.length=pre.length->st.fit->
  (Dn prog).code (.loop tI) ⟨[(5,.ptr 0 0),(6,.sl 1 0 vals.length),(10,.ptr 2 0),(11,.sl 3 0 vals.length),(51,.sl 1 0 vals.length),(52,A_ vals.length),(53,A_ pre.length)],⟨h4 b X0 (.arr 1 (aF vals)) (.arr 1 (cN (sgn++List.replicate vs.length 0))) st,N⟩⟩ =
  some (.exit 0,⟨[(5,.ptr 0 0),(6,.sl 1 0 vals.length),(10,.ptr 2 0),(11,.sl 3 0 vals.length)],⟨h4 b X0 (.arr 1 (aF vals)) (.arr 1 (cN (sgn++zJ b vs st))) (ur b vs st),N⟩⟩):=by
 intro vs
 induction vs with
 |nil =>
  intro pre sgn st h1 h2 h3;rw[be]at h1;subst h1;rw[ah NF];simp(maxSteps:=300000) (disch:=omega)[↓aa,zJ,ur]
 |cons v vs ih =>
  intro pre sgn st h1 h2 h3;have hlen:vals.length=pre.length+(vs.length+1):=by rw[h1];simp
  have hgv:nth vals pre.length=v:=by rw[h1];exact U2
  have hgi:(aF vals)[pre.length]?=some [.int .i64 v]:=by rw[HA o_,hgv]
  have hg:=λX1 X3=>LT b hb X0 X1 X3 N st 1 h3
  rw[ah NF,ar,cx];have hsl:(cN (sgn++0::List.replicate vs.length 0))[pre.length]?=some [.int .i64 0]:=by
   rw[Dk g_,<-h2,arH];rfl
  simp only[h4]at hg⊢;by_cases hv:v=0
  .subst hv;have ih:=ih (pre++[0]) (sgn++[0]) st (by rw[h1];simp) (by simp[h2]) h3;simp only[h4]at ih;simp only[zJ,ur,bc];simp(maxSteps:=300000) (disch:=omega)[↓ac,↓aa,hgi];simp at ih;exact ih
  .have ih:=ih (pre++[v]) (sgn++[sV b st 1]) (rN b st 1) (by rw[h1];simp) (by simp[h2]) (QU hb h3);simp only[h4]at ih;simp only[zJ,ur,aa hv];simp(maxSteps:=300000) (disch:=omega)[↓ac,↓aa,hgi,hv,hg,hsl];simp at ih;exact ih
def ahw (b:C_)(hb:b.length<=1000000000)(id:Nat)(pl:Int)(x2 x3:AV)(N len:Nat)(hlen:len<=100)(sgn:C_)(hsg:sgn.length=len):∀(vs:G_) (done:G_) (st:RS),done.length+vs.length=len->(∀v∈vs,0<=v∧v<=130)->st.fit->
  (Dn prog).code (.loop tA) ⟨[(5,.ptr 0 0),(6,.sl 1 0 len),(10,.ptr 2 0),(11,.sl 3 0 len),(66,.sl 1 0 len),(67,A_ len),(68,A_ done.length)],⟨h4 b (.cells [A_ id,A_ pl,x2,x3]) (.arr 1 (aF (done++vs))) (.arr 1 (cN sgn)) st,N⟩⟩ =
  some (.exit 2,⟨[(6,.sl 1 0 len),(10,.ptr 2 0)],⟨[(1,.arr 1 (aF (done++Hh b id vs (sgn.drop done.length) st))),(2,rdC b (xB b id vs (sgn.drop done.length) st)),(3,.arr 1 (cN sgn))],N⟩⟩):=by
 intro vs
 induction vs with
 |nil =>
  intro done st h1 h2 h3;rw[ah N4];have:done.length=len:=by simpa using h1
  simp(maxSteps:=300000) (disch:=omega)[↓aa,Hh,xB]
 |cons v vs ih =>
  intro done st h1 h2 h3;have hv:=h2 v s_;have h1:done.length+(vs.length+1)=len:=by simpa using h1
  have hgi:(aF (done++v::vs))[done.length]?=some [.int .i64 v]:=by rw[HA s_,U2]
  have hgs:(cN sgn)[done.length]?=some [.int .i64 (nth sgn done.length:Nat)]:=Dk o_;have hset:∀x:Int,(aF (done++v::vs)).set done.length [.int .i64 x]=aF (done++x::vs):=λx=>by rw[aex,Rv]
  have hset2:∀y x:Int,(aF (done++y::vs)).set done.length [.int .i64 x]=aF (done++x::vs):=λy x=>by rw[aex,Rv]
  have hgi2:∀x:Int,(aF (done++x::vs))[done.length]?=some [.int .i64 x]:=λx=>by rw[HA s_,U2]
  have hE:=λX1 X3=>Yt b hb (.cells [A_ id,A_ pl,x2,x3]) X1 X3 N st h3
  have hel:=aiU (b:=b) (st:=st);rw[ah N4,pP o_,Hh,xB];simp only[h4]at hE⊢;by_cases hid:id=11∧v=16
  .obtain⟨rfl,rfl⟩:=hid;rw[ac ⟨rfl,rfl⟩,ac ⟨rfl,rfl⟩];have ih:=ih (done++[sg (nth sgn done.length) (Q4 b st)]) (E1 b st) g_ (λx hx=>h2 x (by simp[hx])) (apl hb h3);simp only[h4]at ih;simp at ih;have c11:((11:Nat):Int)=11:=rfl;simp only[c11]at hE;by_cases hs:nth sgn done.length=1
   .simp only[sg,ac hs]at ih⊢;simp(maxSteps:=300000) (disch:=omega)[↓ac,↓aa,hgi,hE,hset,hgs,hgi2,hset2,hs];exact ih
   .simp only[sg,aa hs]at ih⊢;simp(maxSteps:=300000) (disch:=omega)[↓ac,↓aa,hgi,hE,hset,hgs,hgi2,hset2,hs];exact ih
  .rw[aa hid,aa hid];have ih:=ih (done++[sg (nth sgn done.length) v]) st g_ (λx hx=>h2 x (by simp[hx])) h3;simp only[h4]at ih;simp at ih;by_cases hi:id=11
   .subst hi;have c11:((11:Nat):Int)=11:=rfl;have hv2:v≠16:=λh=>hid ⟨rfl,h⟩
    by_cases hs:nth sgn done.length=1
    .simp only[sg,ac hs]at ih⊢;simp(maxSteps:=300000) (disch:=omega)[↓ac,↓aa,hgi,hset,hgs,hgi2,hset2,hs,hv2];exact ih
    .simp only[sg,aa hs]at ih⊢;simp(maxSteps:=300000) (disch:=omega)[↓ac,↓aa,hgi,hset,hgs,hgi2,hset2,hs,hv2];exact ih
   .by_cases hs:nth sgn done.length=1
    .simp only[sg,ac hs]at ih⊢;simp(maxSteps:=300000) (disch:=omega)[↓ac,↓aa,hgi,hset,hgs,hgi2,hset2,hs];exact ih
    .simp only[sg,aa hs]at ih⊢;simp(maxSteps:=300000) (disch:=omega)[↓ac,↓aa,hgi,hset,hgs,hgi2,hset2,hs];exact ih
def jL (b:C_):G_->Nat->R C_
 |[],a=>.ok [] a
 |v::r,a=>if v=0 then (jL b r a).bind λl n=>.ok (0::l) n else (bb b a 1).bind λs n=>(jL b r n).bind λl n=>.ok (s::l) n
def wJ (b:C_):Nat->Nat->Nat->R Nat
 |0,_,_=>.er 7
 |f+1,m,a=>(bb b a 1).bind λv n=>if v=1 then wJ b f (m+1) n else .ok m n
def MF (b:C_)(a:Nat):R Nat:=(wJ b 9 0 a).bind λm n=>(bb b n ((m+4:Nat):Int)).bind λx n=>.ok (2 ^ (m+4)+x) n
def lQ (b:C_)(id:Nat):G_->C_->Nat->R G_
 |v::r,s::ss,a=>if id=11∧v=16 then (MF b a).bind λx n=>(lQ b id r ss n).bind λl n=>.ok (sg s x::l) n else (lQ b id r ss a).bind λl n=>.ok (sg s v::l) n
 |_,_,a=>.ok [] a
def DC (id:Nat)(b:C_)(a:Int):R G_ :=
 (yi id b a).bind λe n=>if j8 id then .ok (lT id e) n else (jL b (lT id e) n).bind λss n=>lQ b id (lT id e) ss n
def Rw {b:C_}{a s:Int}{v n:Nat}(h:bb b a s=.ok v n):sV b ⟨a,0⟩ s=v∧rN b ⟨a,0⟩ s=⟨n,0⟩:=by
 constructor<;>simp[sV,rN,vO,nO,eO,h]
def ac5 {b:C_}{a s:Int}{e:Nat}(h:bb b a s=.er e):sV b ⟨a,0⟩ s=0∧rN b ⟨a,0⟩ s=⟨a,e+1⟩:=by
 constructor<;>simp[sV,rN,vO,nO,eO,h]
def adZ {b:C_}{a s:Int}{e:Nat}:sV b ⟨a,e+1⟩ s=0∧rN b ⟨a,e+1⟩ s=⟨a,e+1⟩:=by
 constructor<;>simp[sV,rN]
def aiD {b:C_}{a:Int}{e:Nat}{f m:Nat}:iJ b f m ⟨a,e+1⟩=(m,⟨a,e+1⟩):=by
 cases f with
 |zero=>rfl
 |succ f=>rw[iJ,adZ.1,adZ.2,aa s_]
def awu {b:C_}{a:Int}{e:Nat}:E1 b ⟨a,e+1⟩=⟨a,e+1⟩:=by
 rw[E1,aiD,adZ.2]
def akG {b:C_}{a:Int}{e:Nat}:∀{vs:G_},ur b vs ⟨a,e+1⟩=⟨a,e+1⟩
 |[]=>rfl
 |v::r=>by
  rw[ur];split
  .exact akG
  .rw[adZ.2];exact akG
theorem ac8 {b:C_}{id:Nat}{a:Int}{e:Nat}:∀{vs:G_}{ss:C_},xB b id vs ss ⟨a,e+1⟩=⟨a,e+1⟩
 |[],_=>by simp[xB]
 |_::_,[]=>by simp[xB]
 |v::r,s::ss=>by
  rw[xB];split
  .rw[awu];exact ac8
  .exact ac8
def aqt {b:C_}:∀{vs:G_}{a:Nat},match jL b vs a with
  |.ok l n=>zJ b vs ⟨a,0⟩=l∧ur b vs ⟨a,0⟩=⟨n,0⟩
  |.er e=>(ur b vs ⟨a,0⟩).e=e+1
 |[],a=>⟨rfl,rfl⟩
 |v::r,a=>by
  simp only[jL,zJ,ur];by_cases hv:v=0
  .simp only[ac hv];have ih:=aqt (b:=b) (vs:=r) (a:=a)
   cases h:jL b r a with
   |ok l n=>rw[h]at ih;exact⟨by rw[ih.1],ih.2⟩
   |er e=>rw[h]at ih;exact ih
  .simp only[aa hv]
   cases h1:bb b a 1 with
   |ok s n =>
    rw[(Rw h1).1,(Rw h1).2,ax];have ih:=aqt (b:=b) (vs:=r) (a:=n)
    cases h:jL b r n with
    |ok l n=>rw[h]at ih;exact⟨by rw[ih.1],ih.2⟩
    |er e=>rw[h]at ih;exact ih
   |er e=>rw[(ac5 h1).2,co];simp only[akG]
def aoH {b:C_}:∀{f m a:Nat},f+1+m=9->match wJ b (f+1) m a with
  |.ok k n=>iJ b (f+2) m ⟨a,0⟩=(k,⟨n,0⟩)
  |.er e=>(iJ b (f+2) m ⟨a,0⟩).2.e=e+1
 |f,m,a,hm=>by
  rw[wJ,iJ]
  cases h1:bb b a 1 with
  |er e=>rw[(ac5 h1).1,(ac5 h1).2,co,aa s_]
  |ok v n =>
   rw[(Rw h1).1,(Rw h1).2,ax];by_cases hv:v=1
   .subst hv;rw[ac rfl,ac ⟨rfl,rfl⟩]
    cases f with
    |zero =>
     rw[ac o_,wJ];show(iJ b 1 (m+1) ⟨ra ⟨n,0⟩,7+1⟩).2.e=7+1;rw[aiD]
    |succ f =>
     rw[aa o_];exact aoH (by omega)
   .rw[aa hv,aa (λh=>hv h.1)]
def ax2 {b:C_}{a:Nat}:match MF b a with
  |.ok v n=>Q4 b ⟨a,0⟩=v∧E1 b ⟨a,0⟩=⟨n,0⟩
  |.er e=>(E1 b ⟨a,0⟩).e=e+1:=by
 rw[MF,Q4,E1];have h:=aoH (b:=b) (f:=8) (m:=0) (a:=a) rfl
 cases h1:wJ b 9 0 a with
 |er e =>
  rw[h1]at h;generalize iJ b 10 0 ⟨a,0⟩=p at *;obtain⟨m,x,y⟩:=p;simp only at h;subst h;simp only[adZ,co]
 |ok k n =>
  rw[h1]at h;rw[ax,h]
  cases h2:bb b n ((k+4:Nat):Int) with
  |er e=>simp only[(ac5 h2).2,co]
  |ok v m=>simp only[(Rw h2).1,(Rw h2).2,ax];exact⟨trivial,trivial⟩
def ars {b:C_}{id:Nat}:∀{vs:G_}{ss:C_}{a:Nat},match lQ b id vs ss a with
  |.ok l n=>Hh b id vs ss ⟨a,0⟩=l∧xB b id vs ss ⟨a,0⟩=⟨n,0⟩
  |.er e=>(xB b id vs ss ⟨a,0⟩).e=e+1
 |[],ss,a=>by simp[lQ,Hh,xB]
 |v::r,[],a=>by simp[lQ,Hh,xB]
 |v::r,s::ss,a=>by
  rw[lQ,Hh,xB];by_cases hc:id=11∧v=16
  .simp only[ac hc];have h:=ax2 (b:=b) (a:=a)
   cases h1:MF b a with
   |er e =>
    rw[h1]at h;generalize E1 b ⟨a,0⟩=p at *;obtain⟨x,y⟩:=p;simp only at h;subst h;simp only[ac8,co]
   |ok x n =>
    rw[h1]at h;rw[h.1,h.2,ax];have ih:=ars (b:=b) (id:=id) (vs:=r) (ss:=ss) (a:=n)
    cases h2:lQ b id r ss n with
    |ok l n=>rw[h2]at ih;exact⟨by rw[ih.1],ih.2⟩
    |er e=>rw[h2]at ih;exact ih
  .simp only[aa hc];have ih:=ars (b:=b) (id:=id) (vs:=r) (ss:=ss) (a:=a)
   cases h2:lQ b id r ss a with
   |ok l n=>rw[h2]at ih;exact⟨by rw[ih.1],ih.2⟩
   |er e=>rw[h2]at ih;exact ih
abbrev GX:VC:=(.seq EC (.seq BV (.seq (.seq Du (.block 0 (.seq (.loop tI) (K [51,52,53])))) (.seq (.seq Cz (.block 2 (.seq (.loop tA) (.seq (K [11,66,67,68]) (F 5))))) (.seq (.seq CA (.cond (.m 103) (.seq (K [6]) (.seq wh .ret)) .skip)) (.seq wS .ret))))))
def abv {low:Int}{w:Nat}:∀{d e:Nat},(kY low w d e).length=d
 |0,_=>rfl
 |d+1,e=>by simp[kY,abv]
def Hw {low:Int}{w:Nat}(hw:1<=w):∀{d e:Nat},∀x∈kY low w d e,low<=x∧x<low+w
 |0,_,x,h=>by simp[kY]at h
 |d+1,e,x,h=>by
  rw[kY,bi]at h;have:=dO e (show w > 0 by omega);rcases h with h|h
  .exact Hw hw x h
  grind
theorem DM {id e:Nat}:(lT id e).length=dX id:=abv
def agr:∀id∈ids,j8 id=false->da id=0:=e_
def alE (b:C_)(hb:b.length<=1000000000)(id:Nat)(pl:Int)(x2 x3:AV)(vals:G_)(hl:1<=vals.length∧vals.length<=100)(hv:∀v∈vals,0<=v∧v<=130)(n:Nat)(hn:n<=b.length)(hx2:bu x2=true) :
  sf (vD [.tmp 6,.tmp 7,.tmp 8] ((Dn prog).code GX ⟨[(0,.d (.lst (ak b))),(5,.ptr 0 0),(6,.sl 1 0 vals.length),(7,A_ n)],⟨[(0,.cells [A_ id,A_ pl,x2,x3]),(1,.arr 1 (aF vals))],2⟩⟩)) =
  if re (xB b id vals (zJ b vals ⟨n,0⟩) (ur b vals ⟨n,0⟩))=0 then some (.tup [.own true 1 (aF (Hh b id vals (zJ b vals ⟨n,0⟩) (ur b vals ⟨n,0⟩))),A_ ((ra (xB b id vals (zJ b vals ⟨n,0⟩) (ur b vals ⟨n,0⟩)))),A_ 0])
  else some (.tup [.nl,A_ 0,A_ ((re (xB b id vals (zJ b vals ⟨n,0⟩) (ur b vals ⟨n,0⟩))))]):=by
 have hf:RS.fit ⟨n,0⟩:=by show i64 _;grind
 have sgl:∀(vs:G_) (st:RS),(zJ b vs st).length=vs.length:=by
  intro vs
  induction vs<;>grind [zJ]
 have sgf:∀(vs:G_) (st:RS),st.fit->(ur b vs st).fit:=by
  intro vs
  induction vs<;>grind [ur,QU]
 have l0:=λX0=>ahb b hb X0 4 vals hl.2 vals [] [] ⟨n,0⟩ s_ rfl hf
 have l1:=ahw b hb id pl x2 x3 4 vals.length hl.2 (zJ b vals ⟨n,0⟩) (sgl _ _) vals [] (ur b vals ⟨n,0⟩) s_ hv (sgf _ _ hf);have vll:(Hh b id vals (zJ b vals ⟨n,0⟩) (ur b vals ⟨n,0⟩)).length=vals.length:=by
  have:∀(vs:G_) (ss:C_) (st:RS),ss.length=vs.length->(Hh b id vs ss st).length=vs.length:=by
   intro vs
   induction vs with
   |nil=>grind [Hh]
   |cons v r ih =>
    intro ss st h
    cases ss<;>grind [Hh]
  simp_all
 have hz:cN (List.replicate vals.length 0)=List.replicate vals.length [.int .i64 0]:=by simp[cN]
 have c0:((0:Nat):Int)=0:=rfl;simp only[aO,bD,ll,h4,rdC,hz,c0,azn,azv]at l0 l1;simp(disch:=omega)[l0,l1,Cl]
 grind
def arD {b:C_}{id:Nat}{vals:G_}{n:Nat}{γ:Type}{F:G_->Int->γ}{G:Nat->γ} :
  (if re (xB b id vals (zJ b vals ⟨n,0⟩) (ur b vals ⟨n,0⟩))=0 then F (Hh b id vals (zJ b vals ⟨n,0⟩) (ur b vals ⟨n,0⟩)) (ra (xB b id vals (zJ b vals ⟨n,0⟩) (ur b vals ⟨n,0⟩)))
  else G (re (xB b id vals (zJ b vals ⟨n,0⟩) (ur b vals ⟨n,0⟩))))=match (jL b vals n).bind λss n=>lQ b id vals ss n with
   |.ok l n=>F l n
   |.er e=>G (e+1):=by
 have h1:=aqt (b:=b) (vs:=vals) (a:=n)
 cases h2:jL b vals n with
 |er e =>
  generalize ur b vals ⟨n,0⟩=p at *;obtain⟨x,y⟩:=p
  grind [ac8,co,re]
 |ok ss m =>
  rw[h2]at h1;rw[h1.1,h1.2,ax];have h3:=ars (b:=b) (id:=id) (vs:=vals) (ss:=ss) (a:=m)
  cases h4:lQ b id vals ss m with
  |er e =>
   rw[h4]at h3;have h5:re (xB b id vals ss ⟨m,0⟩)=e+1:=h3
   simp_all
  |ok l k =>
   rw[h4]at h3;rw[h3.1,h3.2];rfl
abbrev pH (b:C_)(id:Nat)(l:G_)(n:Nat):Prop:=l.length=dX id∧n<=b.length∧∀x∈l,-40000<=x∧x<=40000
def Mh {b:C_}:∀{vs:G_}{a:Nat}{l:C_}{n:Nat},a<=b.length->jL b vs a=.ok l n->l.length=vs.length∧n<=b.length
 |[],a,l,n,ha,h=>by
  grind [jL]
 |v::r,a,l,n,ha,h=>by
  simp only[jL]at h;by_cases hv:v=0
  .cases h1:jL b r a with
   |er e=>simp_all
   |ok l2 n2 =>
    have ih:=Mh ha h1
    grind [ax]
  .cases h0:bb b a 1 with
   |er e=>simp_all
   |ok s m =>
    cases h1:jL b r m with
    |er e=>simp_all
    |ok l2 n2 =>
     have ih:=Mh (dU h0).2 h1
     grind [ax]
def ajM {b:C_}:∀{f m a k n:Nat},f+m=9->wJ b f m a=.ok k n->k<=8∧n<=b.length
 |0,_,_,_,_,_,h=>absurd h (by simp[wJ])
 |f+1,m,a,k,n,hf,h=>by
  rw[wJ]at h
  cases h1:bb b a 1 with
  |er e=>simp_all
  |ok v a1 =>
   rw[h1,ax]at h;by_cases hv:v=1
   .rw[ac hv]at h;exact ajM o_ h
   .rw[aa hv]at h;injection h with e1 e2
    subst e1 e2;exact⟨o_,(dU h1).2⟩
def awg {b:C_}{a v n:Nat}(h:MF b a=.ok v n):v<=30000∧n<=b.length:=by
 rw[MF]at h
 cases h1:wJ b 9 0 a with
 |er e=>simp_all
 |ok m n1 =>
  have hp:=ajM rfl h1;rw[h1,ax]at h
  cases h2:bb b n1 ((m+4:Nat):Int) with
  |er e=>simp_all
  |ok x n2 =>
   have hq:=dU h2;rw[h2,ax]at h;have h3:2 ^ (m+4)<=2 ^ 12:=aw o_ (by omega)
   grind
theorem RB {b:C_}{id:Nat}:∀{vs:G_}{ss:C_}{a:Nat}{l:G_}{n:Nat},a<=b.length->ss.length=vs.length->(∀v∈vs,-100<=v∧v<=130)->lQ b id vs ss a=.ok l n->l.length=vs.length∧n<=b.length∧∀x∈l,-40000<=x∧x<=40000
 |[],ss,a,l,n,ha,hs,hv,h=>by
  grind [lQ]
 |v::r,[],a,l,n,ha,hs,hv,h=>by simp at hs
 |v::r,s::ss,a,l,n,ha,hs,hv,h=>by
  have hs2:ss.length=r.length:=u_;have hv2:∀v∈r,-100<=v∧v<=130:=λx hx=>hv x (by simp[hx])
  have hv1:=hv v s_;have hsg:∀y:Int,-40000<=y->y<=40000->-40000<=sg s y∧sg s y<=40000:=λy h1 h2=>by grind [sg]
  rw[lQ]at h;by_cases hc:id=11∧v=16
  .rw[ac hc]at h
   cases h1:MF b a with
   |er e=>simp_all
   |ok x n1 =>
    have hp:=awg h1;rw[h1,ax]at h
    cases h2:lQ b id r ss n1 with
    |er e=>simp_all
    |ok l2 n2 =>
     obtain⟨i1,i2,i3⟩:=RB hp.2 hs2 hv2 h2
     grind [ax]
  .rw[aa hc]at h
   cases h2:lQ b id r ss a with
   |er e=>simp_all
   |ok l2 n2 =>
    obtain⟨i1,i2,i3⟩:=RB ha hs2 hv2 h2
    grind [ax]
def R9 {id:Nat}{b:C_}{a:Int}{e n:Nat}(hid:jf id)(h:yi id b a=.ok e n):e<bh id∧n<=b.length:=by
 rw[yi]at h
 cases z1:lG b 10 0 a with
 |er e=>simp_all
 |ok m m1 =>
  rw[z1,ax]at h
  cases z2:bb b m1 m with
  |er e=>simp_all
  |ok hi m2 =>
   rw[z2,ax]at h
   cases z3:bb b m2 (bI id) with
   |er e=>simp_all
   |ok lo m3 =>
    rw[z3,ax]at h;by_cases hc:(b8 id).length<=(2 ^ m+hi-1)*2 ^ bI id+lo
    .simp_all
    .rw[aa hc]at h;injection h with e1 e2
     subst e1 e2;exact⟨(IZ o_).2.2.2 _ (iP o_),(dU z3).2⟩
def as0 {id:Nat}{b:C_}{a:Int}{l:G_}{n:Nat}(hid:jf id)(h:DC id b a=.ok l n):pH b id l n:=by
 obtain⟨k1,k2,k3,k4,k5,k6,k7⟩:=lj id (fK hid);rw[DC]at h
 cases h1:yi id b a with
 |er e=>simp_all
 |ok e n1 =>
  have hp:=(R9 hid h1).2;have hv:∀v∈lT id e,-100<=v∧v<=200:=λv hv=>by
   have:=Hw (low:=da id) (w:=cu id) k3 (d:=dX id) (e:=e) v hv;omega
  rw[h1,ax]at h;by_cases hs:j8 id=true
  .grind [DM]
  .rw[aa hs]at h
   cases h2:jL b (lT id e) n1 with
   |er e=>simp_all
   |ok ss n2 =>
    have hq:=Mh hp h2;rw[h2,ax]at h;have hv2:∀v∈lT id e,-100<=v∧v<=130:=λv hv=>by
     have:=Hw (low:=da id) (w:=cu id) k3 (d:=dX id) (e:=e) v hv;omega
    have:=RB hq.2 hq.1 hv2 h
    grind [DM]
def aqB (id:Nat)(b:C_)(a:Int)(hb:b.length<=1000000000)(ha:i64 a)(hid:1<=id∧id<=11):bq prog wF [.d (.lst (ak b)),A_ a,mS id] =
  rK (pH b id) (DC id b a) (λl n=>some (.tup [.own true 1 (aF l),A_ n,A_ 0])) (λe=>some (.tup [.nl,A_ 0,A_ (e+1)])):=by
 have hok:jf id:=⟨hid.1,o_⟩
 have hr:=aao id b a hb ha hok;have hsg:=OZ id (by
  obtain⟨h1,h2⟩:=hid;simp only[ids,List.take,aB,cU,fC];omega)
 have hV:=λe he=>SU id e hok he
 obtain⟨k1,k2,k3,k4,k5,k6,k7⟩:=lj id (fK hok);have hus:=agr id (fK hok);rw[aU alx akS rfl];obtain⟨T,ht⟩:∃T,T=GX:=⟨_,rfl⟩
 have hT:=λpl x2 x3 vals hl hv n hn hx2=>alE b hb id pl x2 x3 vals hl hv n hn hx2
 rw[<-ht]at hT;unfold GX at ht;rw[<-ht];simp only[mS]at hr⊢;rw[DC,ww (q:=λe n=>e<bh id∧n<=b.length) (λe n h=>R9 hok h)];have hbl:∀e,(lT id e).length=dX id:=λe=>DM
 have hbi:=λe=>Hw (low:=da id) (w:=cu id) k3 (d:=dX id) (e:=e)
 generalize hes:b8 id=es at *;generalize hrs:dy id=rs at *;generalize hpl:bI id=pl at *;simp(maxSteps:=300000) (disch:=omega)[hr,↓ac,↓aa];refine jv (λ_ _=>rfl) (λe n hp=>?_) λ_=>rfl
 have hVe:=hV e hp.1;have hie:=hbi e;simp only[lT]at hVe hbl⊢;have hble:=hbl e;generalize kY (da id) (cu id) (dX id) e=vals at *;by_cases hs:j8 id=true
 .rw[ac hs,eD ⟨hble,hp.2,λx hx=>by grind⟩];simp(disch:=omega)[hVe,hsg,hs,↓ac,↓aa]
 .have hs2:j8 id=false:=d_;have hT2:=hT pl (.d (.lst (cN es))) (.d (.lst (cN rs))) vals o_ (λv hv=>by grind) n hp.2 rfl;simp(disch:=omega)[hVe,hsg,hs2,↓ac];rw[hT2];refine(arD (γ:=M_) (F:=λl n=>some (.tup [.own true 1 (aF l),A_ n,A_ 0])) (G:=λe=>some (.tup [.nl,A_ 0,A_ e]))).trans ?_
  cases h1:jL b vals n with
  |er e=>simp[rK]
  |ok ss m =>
   have hq:=Mh hp.2 h1
   grind [ax,rK,RB]
abbrev eW:=@Nat.mod_eq_of_lt
def Ic (b:C_)(a:Int):R Int:=(yi 12 b a).bind λe n=>.ok ((e:Int)-60) n
abbrev pSt (b:C_)(d:Int)(n:Nat):Prop:=(-60<=d∧d<=60)∧n<=b.length
def asP {γ:Type}{b:C_}{a:Int}{F:Int->Nat->γ}{G:Nat->γ}:rK (pSt b) (Ic b a) F G=rK (λe n=>e<bh 12∧n<=b.length) (yi 12 b a) (λe n=>F ((e:Int)-60) n) G:=by
 rw[Ic,ww (q:=λe n=>e<bh 12∧n<=b.length) (λe n h=>R9 o_ h)];refine jv (λ_ _=>rfl) (λe n hp=>?_) λ_=>rfl
 have h1:e<121:=hp.1;rw[eD ⟨o_,hp.2⟩]
def adv (b:C_)(a:Int)(hb:b.length<=1000000000)(ha:i64 a):bq prog LC [.d (.lst (ak b)),A_ a] =
  rK (pSt b) (Ic b a) (λd n=>some (.tup [A_ d,A_ n,A_ 0])) (λe=>some (.tup [A_ 0,A_ 0,A_ (e+1)])):=by
 have hok:jf 12:=o_;have hr:=aao 12 b a hb ha hok;have hg:=Vc 12 hok;have hV:=λe he=>SU 12 e hok he
 have c12:((12:Nat):Int)=12:=rfl;rw[aU Zl Zn rfl,asP];simp only[mS,Xk,c12]at hr hg hV⊢;generalize hes:b8 12=es at *;generalize hrs:dy 12=rs at *;generalize hpl:bI 12=pl at *;simp(maxSteps:=300000) (disch:=omega)[hr,hg,↓ac,↓aa];refine jv (λ_ _=>rfl) (λe n hp=>?_) λ_=>rfl
 have h1:e<121:=hp.1;have hv:aF (lT 12 e)=[[.int .i64 ((e:Int)-60)]]:=by
  show aF [((e % 121:Nat):Int)+-60]=_;rw[eW h1];rfl
 have hVe:=hV e hp.1;rw[hv]at hVe;simp(maxSteps:=300000) (disch:=omega)[hVe]
structure H2 (hp:Int->Int->am)(A:Nat):Prop where
 get:∀s z,get (hp s z) A=some (.cells [A_ s,A_ z])
 put:∀s z s' z',put (hp s z) A (.cells [A_ s',A_ z'])=hp s' z'
abbrev kW (book n s z:Int):Prop:=if book=13 then (0<=n∧n<=511)∧(z<0∨(z-60<=n∧n<=z+60)) else (0<=n∧n<=255)∧(s-60<=n∧n<=s+60)
def LR {hp:Int->Int->am}{A:Nat}(H:H2 hp A)(book n s z:Int)(N:Nat)(hn:-100000<=n∧n<=100000)(hs:-100000<=s∧s<=100000)(hz:-100000<=z∧z<=100000) :
  (Dn prog).call px [.ptr A 0,A_ book,A_ n] ⟨hp s z,N⟩ =
   if kW book n s z then some (B_ true,⟨if book=13 then hp s n else hp n z,N⟩) else some (B_ false,⟨hp s z,N⟩):=by
 rw[ba Pk PQ rfl];by_cases hb:book=13
 .by_cases ho:(0<=n∧n<=511)∧(z<0∨(z-60<=n∧n<=z+60))
  .rw[ac (by rw[kW,ac hb];exact ho),ac hb];subst hb;rcases ho with ⟨⟨o1,o2⟩,o3|⟨o3,o4⟩⟩
   .simp(maxSteps:=300000) (disch:=omega)[↓ac,↓aa,H.get,H.put]
   .by_cases hz0:z<0
    .simp(maxSteps:=300000) (disch:=omega)[↓ac,↓aa,H.get,H.put]
    .simp(maxSteps:=300000) (disch:=omega)[↓ac,↓aa,H.get,H.put]
  .rw[aa (by rw[kW,ac hb];exact ho)];subst hb;by_cases o1:n<0
   .simp(maxSteps:=300000) (disch:=omega)[↓ac,↓aa,H.get,H.put]
   .by_cases o2:511<n
    .simp(maxSteps:=300000) (disch:=omega)[↓ac,↓aa,H.get,H.put]
    .by_cases o3:n<z-60
     .simp(maxSteps:=300000) (disch:=omega)[↓ac,↓aa,H.get,H.put]
     .simp(maxSteps:=300000) (disch:=omega)[↓ac,↓aa,H.get,H.put]
 .by_cases ho:(0<=n∧n<=255)∧(s-60<=n∧n<=s+60)
  .rw[ac (by rw[kW,aa hb];exact ho),aa hb];obtain⟨⟨o1,o2⟩,o3,o4⟩:=ho;simp(maxSteps:=300000) (disch:=omega)[↓ac,↓aa,H.get,H.put]
  .rw[aa (by rw[kW,aa hb];exact ho)];by_cases o1:n<0
   .simp(maxSteps:=300000) (disch:=omega)[↓ac,↓aa,H.get,H.put]
   .by_cases o2:255<n
    .simp(maxSteps:=300000) (disch:=omega)[↓ac,↓aa,H.get,H.put]
    .by_cases o3:n<s-60
     .simp(maxSteps:=300000) (disch:=omega)[↓ac,↓aa,H.get,H.put]
     .simp(maxSteps:=300000) (disch:=omega)[↓ac,↓aa,H.get,H.put]
abbrev lH:=@List.drop_drop
def yD {l:Q_}{i:Nat}{s:aX}{r:Q_}(h:l.drop i=s::r):(gx l)[i]?=some [.int .i64 s.book,.int .i64 s.len]:=by
 have:=bl (λl=>l[0]?) h;simp only[bW,bX,dR]at this;rw[gx,bS,this];rfl
def bE {α:Type}{l:List α}{i:Nat}{s:α}{r:List α}(h:l.drop i=s::r):l.drop (i+1)=r:=by
 have:=bl (λl=>l.drop 1) h;simpa [lH] using this
theorem cm {α:Type}{l:List α}{i:Nat}{s:α}{r:List α}(h:l.drop i=s::r):i<l.length:=by
 rcases bt i l.length with g|g
 .exact g
 .rw[cH g]at h;exact absurd h (by simp)
def adA (full:Q_)(hl:full.length<=1000000)(x21:AV)(y22 y23:D):∀(l:Q_) (i:Nat) (lf c:Int) (N:Nat),full.drop i=l->fitsS lf l->0<=c->lf+c<=1000->
  (Dn prog).code (.loop wu) ⟨[(7,A_ (lf+c)),(21,x21),(22,.d y22),(23,.d y23),(27,.d (.lst (gx full))),(28,A_ full.length),(29,A_ i)],⟨[],N⟩⟩ =
  some (.exit 2,⟨[(21,x21),(22,.d y22),(23,.d y23)],⟨[],N+l.length⟩⟩):=by
 intro l
 induction l with
 |nil =>
  intro i lf c N h hf h0 h1;have hi:full.length<=i:=by simpa [List.drop_eq_nil_iff] using h
  rw[ah KU];simp(maxSteps:=300000) (disch:=omega)[↓ac,↓aa]
 |cons s r ih =>
  intro i lf c N h hf h0 h1;obtain⟨⟨⟨s1,s2⟩,s3,s4⟩,hf2⟩:=hf;have hg:=yD h;have hlt:=cm h;have h5:=ih (i+1) (lf-s.len) c (N+1) (bE h) hf2 h0 o_;have c1:((i+1:Nat):Int)=(i:Int)+1:=rfl;have c2:lf-s.len+c=lf+c-s.len:=o_;rw[c1,c2]at h5;have e:N+(s::r).length=N+1+r.length:=by simp only[ar];omega
  rw[ah KU,e,<-h5];rcases s4 with s4|s4
  .simp(maxSteps:=300000) (disch:=omega)[↓ac,↓aa,hg]
  .simp(maxSteps:=300000) (disch:=omega)[↓ac,↓aa,hg,s4]
def Zo:H_->Nat
 |[]=>0
 |l::r=>l.length+Zo r
def pb {g:H_}{i:Nat}{l:Q_}{r:H_}(h:g.drop i=l::r):(bF g)[i]?=some [.lst (gx l)]:=by
 have:=bl (λl=>l[0]?) h;simp only[bW,bX,dR]at this;rw[bF,bS,this];rfl
def af7 (full:H_)(hl:full.length<=1000)(m:Int)(hm:0<=m∧m<=40):∀(g:H_) (i N:Nat),full.drop i=g->(∀l∈g,fitsS m l∧l.length<=1000)->
  (Dn prog).code (.loop wj) ⟨[(21,.d (.lst (bF full))),(22,A_ full.length),(23,A_ i)],⟨[],N⟩⟩=some (.exit 0,⟨[],⟨[],N+Zo g⟩⟩):=by
 intro g
 induction g with
 |nil =>
  intro i N h hf;have hi:full.length<=i:=by simpa [List.drop_eq_nil_iff] using h
  rw[ah Kr];simp(maxSteps:=300000) (disch:=omega)[↓ac,↓aa,Zo]
 |cons l r ih =>
  intro i N h hf;have hg:=pb h;have hlt:=cm h;obtain⟨f1,f2⟩:=hf l (.head _);have h0:=adA l o_ (.d (.lst (bF full))) (.int .i64 full.length) (.int .i64 i) l 0 m (40-m) N rfl f1 o_ o_;have h5:=ih (i+1) (N+l.length) (bE h) λq hq=>hf q (.tail _ hq)
  have c1:((i+1:Nat):Int)=(i:Int)+1:=rfl;have c2:m+(40-m)=40:=o_;have c0:((0:Nat):Int)=0:=rfl;rw[c1]at h5;rw[c2,c0]at h0;have e:N+Zo (l::r)=N+l.length+Zo r:=by rw[Zo];omega
  rw[ah Kr,e,<-h5];simp(maxSteps:=300000) (disch:=omega)[↓ac,↓aa,hg,h0]
def aaW (gain m:Int)(g:H_)(hgn:0<=gain∧gain<=255)(hl:g.length<=8)(hm:0<=m∧m<=40)(hf:∀l∈g,fitsS m l∧l.length<=1000) :
  bq prog S9 [A_ gain,.d (.lst (bF g))]=some (B_ true):=by
 have h:=af7 g o_ m hm g 0 0 rfl hf;have c0:((0:Nat):Int)=0:=rfl;rw[c0]at h;rw[aU agV aim rfl];simp(maxSteps:=300000) (disch:=omega)[↓ac,↓aa,h]
abbrev fR:=@List.flatMap_nil
def Kg:Int->Q_->Option Int
 |lf,[]=>some lf
 |lf,s::r=>if s.right lf then Kg (lf-s.len) r else none
theorem UZ {l:Q_}{lf:Int}:Kg lf l=some 0↔fitsS lf l:=by
 induction l generalizing lf<;>grind [Kg,fitsS]
def aEj {l:Q_}{lf v:Int}(h:Kg lf l=some v)(h0:0<=lf):0<=v∧v<=lf:=by
 induction l generalizing lf<;>grind [Kg]
def bQ {α:Type}{l:List α}{i:Nat}(h:l.drop i=[]):l.length<=i:=u_
def abR (full:Q_)(hl:full.length<=1000000)(X:Obj)(x26:AV)(y27 y28:D):∀(r:Q_) (i:Nat) (lf:Int) (N:Nat),full.drop i=r->0<=lf∧lf<=1000->1<=N->
  ∃M,N<=M∧(Dn prog).code (.loop uH) ⟨[(2,.ptr 0 0),(9,A_ lf),(26,x26),(27,.d y27),(28,.d y28),(34,.d (.lst (gx full))),(35,A_ full.length),(36,A_ i)],⟨[(0,X)],N⟩⟩ =
  match Kg lf r with
  |some v=>some (.exit 2,⟨[(2,.ptr 0 0),(9,A_ v),(26,x26),(27,.d y27),(28,.d y28)],⟨[(0,X)],M⟩⟩)
  |none=>some (.ret,⟨[(4,A_ 8)],⟨[(0,X)],M⟩⟩):=by
 intro r
 induction r with
 |nil =>
  intro i lf N h h0 hN;have hi:=bQ h;refine⟨N,ai _,?_⟩;rw[ah AQ,Kg];simp(disch:=omega)[↓aa]
 |cons s r ih =>
  intro i lf N h h0 hN;have hg:=yD h;have hlt:=cm h;have h6:=λk n left=>Vy ⟨k,n⟩ left
  by_cases hr:s.right lf
  .obtain⟨M,hM,e⟩:=ih (i+1) (lf-s.len) (N+1) (bE h) o_ o_;refine⟨M,o_,?_⟩;rw[ah AQ,Kg,ac hr,<-e];simp(disch:=omega)[↓ac,↓aa,hg,h6]
  .refine⟨N+1,o_,?_⟩;rw[ah AQ,Kg,aa hr];simp(disch:=omega)[↓ac,↓aa,hg,h6]
abbrev fk (m:Int)(g:H_):Prop:=∀l∈g,fitsS m l
def acQ (i:aM)(hi:i.Fit)(h0:0<=i.max∧i.max<=1000)(full:H_)(hl:full.length<=1000)(hl2:∀l∈full,l.length<=1000):∀(g:H_) (j:Nat) (N:Nat),full.drop j=g->1<=N->
  ∃M,(Dn prog).code (.loop uo) ⟨[(2,.ptr 0 0),(26,.d (.lst (bF full))),(27,A_ full.length),(28,A_ j)],⟨[(0,.cells i.cells)],N⟩⟩ =
  if fk i.max g then some (.exit 0,⟨[],⟨[(0,.cells i.cells)],M⟩⟩) else some (.ret,⟨[(4,A_ 8)],⟨[(0,.cells i.cells)],M⟩⟩):=by
 simp only[aM.cells];intro g
 induction g with
 |nil =>
  intro j N h hN;have hi:=bQ h;refine⟨N,?_⟩;rw[ah uS,ac (show fk i.max [] from λ_ h=>by simp at h)];simp(disch:=omega)[↓aa]
 |cons l r ih =>
  intro j N h hN;have hg:=pb h;have hlt:=cm h;have hll:l.length<=1000:=hl2 l (by rw[<-aT j full,h];simp);obtain⟨M,hM,e⟩:=abR l o_ (.cells i.cells) (.d (.lst (bF full))) (.int .i64 full.length) (.int .i64 j) l 0 i.max N rfl h0 hN;have c0:((0:Nat):Int)=0:=rfl;rw[c0]at e;simp only[aM.cells]at e
  cases hrm:Kg i.max l with
  |none =>
   refine⟨M,?_⟩;rw[hrm]at e;have hn:¬fk i.max (l::r):=λh=>by
    grind [UZ]
   rw[ah uS,aa hn];simp(disch:=omega)[↓ac,hg,e]
  |some v =>
   rw[hrm]at e;by_cases h9:v=0
   .subst h9;obtain⟨M2,e2⟩:=ih (j+1) M (bE h) o_;refine⟨M2,?_⟩;have hf:=UZ.1 hrm;have hx:fk i.max (l::r)↔fk i.max r:=d_;rw[ah uS,asm hx,<-e2];simp(disch:=omega)[↓ac,hg,e]
   .refine⟨M,?_⟩;have hn:¬fk i.max (l::r):=λh=>by
     grind [UZ]
    rw[ah uS,aa hn];simp(disch:=omega)[↓ac,↓aa,hg,e]
abbrev arA (g:H_):Prop:=g.length<=1000∧∀l∈g,l.length<=1000
abbrev jn (i:aM)(g:H_):Prop:=g.length=i.groups.length∧fk i.max g
def alU (i:aM)(hi:i.Fit)(g:H_)(hf:arA g):bq prog QY [.agg i.cells,.d (.lst (bF g))]=if i.may 11 then if jn i g then some (A_ 0) else some (A_ 8) else some (A_ 8):=by
 have hw:=nQ i hi;rw[aU afc afw rfl];by_cases hm:i.may 11
 .rw[ac hm]at hw⊢;have h0:0<=i.max∧i.max<=1000:=by have:=hm.2.2.1;have:=hm.2.2.2.1;grind [Gt]
  obtain⟨M,e⟩:=acQ i hi h0 g hf.1 hf.2 g 0 1 rfl o_;have c0:((0:Nat):Int)=0:=rfl;rw[c0]at e;simp only[aM.cells]at hw e;by_cases h1:g.length=i.groups.length
  .by_cases h2:fk i.max g
   .rw[ac ⟨h1,h2⟩];simp(disch:=omega)[↓ac,hw,e]
   .rw[aa (λh=>h2 h.2)];rw[aa h2]at e;simp(disch:=omega)[↓ac,hw,e]
  .simp(disch:=omega)[↓ac,↓aa,hw]
 .simp only[aM.cells]at hw;simp(disch:=omega)[↓ac,↓aa,hw]
def d9 (aW:Nat):Nat->Nat->C_
 |0,n=>[n]
 |f+1,n=>if aW<=n then aW::d9 aW f (n-aW) else [n]
def ag0 {σ:Type}{hp:σ->Int->am}{l p q N:Nat}{st:σ->Nat->σ}{di:Nat->σ->Prop}(hI:∀k s x,di (k+1) s->di k (st s x))(hM:∀j k s,j<=k->di k s->di j s)(aW:Nat)(hm:1<=aW∧aW<=1000)(hg:∀s n,get (hp s n) p=some (.cells [A_ n]))(hq:∀s n,get (hp s n) q=some (.cells [A_ aW]))(hpt:∀s n m,put (hp s n) p (.cells [A_ m])=hp s m)
  (hy:∀(k:Nat) (s:σ) (x:Nat) (n:Int),di (k+1) s->x<=aW->b7 (Dn prog) (.yield l) [A_ (x:Int)] ⟨hp s n,N⟩=some (B_ true,⟨hp (st s x) n,N⟩)):∀(f n:Nat) (s:σ),n<=f->n<=1000000->di (f+1) s->
  ∃(m:Nat) (s2:σ),m<aW∧di 1 s2∧st s2 m=(d9 aW f n).foldl st s∧(Dn prog).code (.loop oP) ⟨[(0,.yield l),(1,.ptr p 0),(2,.ptr q 0)],⟨hp s n,N⟩⟩=some (.exit 0,⟨[(0,.yield l),(1,.ptr p 0)],⟨hp s2 m,N⟩⟩):=by
 intro f
 induction f with
 |zero =>
  intro n s hn hb hi;refine⟨n,s,o_,hi,by rfl,?_⟩;rw[ah vk];simp(disch:=omega)[↓aa,hg,hq]
 |succ f ih =>
  intro n s hn hb hi;by_cases h1:aW<=n
  .obtain⟨m,s2,a1,a2,a3,a4⟩:=ih (n-aW) (st s aW) o_ o_ (hI _ _ _ hi);refine⟨m,s2,a1,a2,by grind [d9],?_⟩;have h2:=hy (f+1) s aW n hi o_;have c1:((n-aW:Nat):Int)=(n:Int)-aW:=o_;rw[c1]at a4;rw[ah vk,<-a4];simp(disch:=omega)[↓ac,hg,hq,hpt,-lc,h2]
  .refine⟨n,s,o_,?_,by grind [d9],?_⟩
   .grind
   .rw[ah vk];simp(disch:=omega)[↓aa,hg,hq]
def aqL {σ:Type}{hp:σ->Int->am}{l p q N:Nat}{st:σ->Nat->σ}{di:Nat->σ->Prop}(hI:∀k s x,di (k+1) s->di k (st s x))(hM:∀j k s,j<=k->di k s->di j s)(aW:Nat)(hm:1<=aW∧aW<=1000)(hg:∀s n,get (hp s n) p=some (.cells [A_ n]))(hq:∀s n,get (hp s n) q=some (.cells [A_ aW]))(hpt:∀s n m,put (hp s n) p (.cells [A_ m])=hp s m)
  (hy:∀(k:Nat) (s:σ) (x:Nat) (n:Int),di (k+1) s->x<=aW->b7 (Dn prog) (.yield l) [A_ (x:Int)] ⟨hp s n,N⟩=some (B_ true,⟨hp (st s x) n,N⟩))(n:Nat)(s:σ)(hn:n<=1000000)(hi:di (n+1) s) :
  ∃m:Int,(Dn prog).call lV [.yield l,.ptr p 0,.ptr q 0] ⟨hp s n,N⟩=some (.tup [],⟨hp ((d9 aW n n).foldl st s) m,N⟩):=by
 obtain⟨m,s2,a1,a2,a3,a4⟩:=ag0 hI hM aW hm hg hq hpt hy n n s (ai _) hn hi;have h2:=hy 0 s2 m m a2 o_;refine⟨m,?_⟩;rw[ba WL We rfl,<-a3];simp(disch:=omega)[a4,hg,-lc,h2]
def Tu {aW:Nat}(hm:1<=aW):∀{f n:Nat},(d9 aW f n).length<=n+1
 |0,n=>by simp[d9]
 |f+1,n=>by
  rw[d9];split
  .have:=Tu hm (f:=f) (n:=n-aW)
   grind
  .simp
def ah5 (n m:Int)(h:am)(N:Nat):(Dn prog).call N6 [A_ n,A_ m] ⟨h,N⟩=some (.fn lV [] [.ptr N 0,.ptr (N+1) 0],⟨put (put h N (.cells [A_ n])) (N+1) (.cells [A_ m]),N+2⟩):=by
 rw[ba acA ab7 rfl];simp(disch:=omega)
def Jn (sz:Nat)(s:aX):C_:=au s.book.toNat 4++(d9 (2 ^ sz-1) s.len.toNat s.len.toNat).flatMap λn=>au n sz
def aaw {sz:Nat}:∀{l acc:C_},l.foldl (fun(s:C_) n=>s++au n sz) acc=acc++l.flatMap λn=>au n sz
 |[],acc=>by simp
 |x::r,acc=>by rw[kx,aaw];simp
abbrev J4:Obj:=.cells [.junk,.junk,.junk,.junk]
abbrev hpS (sz:Nat)(v:AV):am:=[(0,.cells [v]),(1,J4),(2,.cells [A_ sz])]
abbrev hpF (sz aW N:Nat)(e:aV)(v:AV)(n:Int):am:=[(0,.cells [v]),(1,J4),(2,.cells [A_ sz]),(N+1,.cells [A_ n]),(N+1+1,.cells [A_ aW]),(N+1+2,.loop e [55] xZ xY false none)]
abbrev aac (aW:Nat)(y32 y33 y34:D)(full:Q_)(i:Int)(r:aV):aV:=(3,.ptr 0 0)::(9,.ptr 2 0)::(10,A_ aW)::(32,.d y32)::(33,.d y33)::(34,.d y34)::(38,.d (.lst (gx full)))::(39,A_ full.length)::(40,A_ i)::r
def aB6 (sz aW N:Nat)(hsz:1<=sz∧sz<=5)(hm:aW<2 ^ sz)(hN:3<=N)(y32 y33 y34:D)(full:Q_)(i:Int)(b:C_)(x:Nat)(n:Int)(hx:x<=aW)(hb:b.length<=800000000) :
  b7 (Dn prog) (.yield (N+1+2)) [A_ (x:Int)] ⟨hpF sz aW N (aac aW y32 y33 y34 full i [(54,.fn lV [] [.ptr (N+1) 0,.ptr (N+1+1) 0])]) (.own false 1 (ak b)) n,N+1+2+1⟩ =
  some (B_ true,⟨hpF sz aW N (aac aW y32 y33 y34 full i [(54,.fn lV [] [.ptr (N+1) 0,.ptr (N+1+1) 0])]) (.own false 1 (ak (b++au x sz))) n,N+1+2+1⟩):=by
 have h5:2 ^ sz<=2 ^ 5:=aw o_ hsz.2;have h1:=mp b x sz o_ o_ _ (.inl rfl);rw[ac d_]at h1;simp(disch:=omega)[acU,acB,↓ac,↓aa,h1]
theorem aiA (sz aW:Nat)(hsz:1<=sz∧sz<=5)(hm:aW=2 ^ sz-1)(full r:Q_)(hl:full.length<=1000)(s:aX)(y32 y33 y34:D)(i N:Nat)(b:C_)(hd:full.drop i=s::r)(hr:s.right 1000)(hN:3<=N)(hb:b.length<=700000000) :
  (Dn prog).code tg ⟨aac aW y32 y33 y34 full i [],⟨hpS sz (.own false 1 (ak b)),N⟩⟩ =
  some (.normal,⟨aac aW y32 y33 y34 full ((i+1:Nat):Int) [],⟨hpS sz (.own false 1 (ak (b++Jn sz s))),N+4⟩⟩):=by
 have hg:=yD hd;have hlt:=cm hd;have h5:2 ^ sz<=2 ^ 5:=aw o_ hsz.2;have h6:2 ^ 1<=2 ^ sz:=aw o_ hsz.1;have h1:=mp b s.book 4 o_ o_ _ (.inl rfl);have ho:qt s.book 4:=by
  grind
 obtain⟨L,hL⟩:=aA (show 0<=s.len by omega);obtain⟨m,h7⟩:=aqL (hp:=λb n=>hpF sz aW N (aac aW y32 y33 y34 full i [(54,.fn lV [] [.ptr (N+1) 0,.ptr (N+1+1) 0])]) (.own false 1 (ak b)) n) (l:=N+1+2) (p:=N+1) (q:=N+1+1) (N:=N+1+2+1) (st:=λs n=>s++au n sz) (di:=λk s=>s.length+5*k<=750000000)
  (λk s x h=>by grind [dq]) (λj k s h1 h2=>by omega) aW o_ (λs n=>by simp(disch:=omega)[↓aa]) (λs n=>by simp(disch:=omega)[↓aa]) (λs n m=>by simp(disch:=omega)[↓aa])
  (λk s x n h1 h2=>aB6 sz aW N hsz o_ hN y32 y33 y34 full i s x n h2 o_) L (b++au s.book.toNat 4) o_ (by simp;omega)
 rw[aaw]at h7;have e:b++au s.book.toNat 4++(d9 aW L L).flatMap (λn=>au n sz)=b++Jn sz s:=by
  grind [Jn]
 rw[e]at h7;rw[hL]at hg;rw[OC];simp(disch:=omega)[↓ac,↓aa,hg,h1,ah5,rd,h7]
def ae0 {sz:Nat}(hsz:1<=sz∧sz<=5){s:aX}(h:s.right 1000):(Jn sz s).length<=6000:=by
 have h6:2 ^ 1<=2 ^ sz:=aw o_ hsz.1;have h1:=Tu (aW:=2 ^ sz-1) o_ (f:=s.len.toNat) (n:=s.len.toNat);rw[Jn,al,dq,List.length_flatMap];have:((d9 (2 ^ sz-1) s.len.toNat s.len.toNat).map λn=>(au n sz).length).sum<=(d9 (2 ^ sz-1) s.len.toNat s.len.toNat).length*5:=by
  generalize d9 (2 ^ sz-1) s.len.toNat s.len.toNat=l
  induction l<;>grind [dq]
 omega
def oY (sz:Nat)(l:Q_):C_:=l.flatMap (Jn sz)
def s9 {lf:Int}:∀{l:Q_},fitsS lf l->lf<=1000->∀s∈l,s.right 1000
 |[],_,_,s,h=>absurd h (by simp)
 |x::r,hf,h0,s,h=>by
  obtain⟨h1,h2⟩:=hf;rcases aB.1 h with e|e
  .grind
  .exact s9 h2 o_ s e
def aif (sz aW:Nat)(hsz:1<=sz∧sz<=5)(hm:aW=2 ^ sz-1)(full:Q_)(hl:full.length<=1000)(y32 y33 y34:D):∀(r:Q_) (i N:Nat) (b:C_),full.drop i=r->(∀s∈r,s.right 1000)->3<=N->b.length+6000*r.length<=700000000->
  ∃M,3<=M∧(Dn prog).code (.loop tg) ⟨aac aW y32 y33 y34 full i [],⟨hpS sz (.own false 1 (ak b)),N⟩⟩ =
  some (.exit 2,⟨[(3,.ptr 0 0),(9,.ptr 2 0),(10,A_ aW),(32,.d y32),(33,.d y33),(34,.d y34)],⟨hpS sz (.own false 1 (ak (b++oY sz r))),M⟩⟩):=by
 intro r
 induction r with
 |nil =>
  intro i N b hd hr hN hb;have hi:=bQ hd;refine⟨N,hN,?_⟩;rw[ah OC,oY,fR,be];simp(disch:=omega)[↓aa]
 |cons s r ih =>
  intro i N b hd hr hN hb;have hs:=hr s (.head _);have h1:=ae0 hsz hs;obtain⟨M,hM,e⟩:=ih (i+1) (N+4) (b++Jn sz s) (bE hd) (λq hq=>hr q (.tail _ hq)) o_ (by grind)
  grind [oY,ah,aiA,La]
def Q8 (i:aM)(g:H_):C_:=g.flatMap (oY i.fsz)
def Pt {sz:Nat}(hsz:1<=sz∧sz<=5):∀{l:Q_},(∀s∈l,s.right 1000)->(oY sz l).length<=6000*l.length
 |[],_=>by simp[oY]
 |s::r,h=>by
  have h1:=ae0 hsz (h s (.head _));have h2:=Pt hsz (l:=r) λq hq=>h q (.tail _ hq)
  grind [oY]
def ahv (sz aW:Nat)(hsz:1<=sz∧sz<=5)(hm:aW=2 ^ sz-1)(m:Int)(hm0:m<=1000)(full:H_)(hl:full.length<=1000):∀(g:H_) (i N:Nat) (b:C_),full.drop i=g->fk m g->(∀l∈g,l.length<=100)->3<=N->b.length+600000*g.length<=700000000->
  ∃M,(Dn prog).code (.loop yk) ⟨[(3,.ptr 0 0),(9,.ptr 2 0),(10,A_ aW),(32,.d (.lst (bF full))),(33,A_ full.length),(34,A_ i)],⟨hpS sz (.own false 1 (ak b)),N⟩⟩ =
  some (.exit 0,⟨[(3,.ptr 0 0)],⟨hpS sz (.own false 1 (ak (b++g.flatMap (oY sz)))),M⟩⟩):=by
 intro g
 induction g with
 |nil =>
  intro i N b hd hf hll hN hb;have hi:=bQ hd;refine⟨N,?_⟩;rw[ah Od,fR,be];simp(disch:=omega)[↓aa]
 |cons l r ih =>
  intro i N b hd hf hll hN hb;simp only[ar]at hb;have hg:=pb hd;have hlt:=cm hd;have hlen:=hll l (.head _);have hr:=s9 (hf l (.head _)) hm0;have h1:=Pt hsz hr;obtain⟨M,hM,e⟩:=aif sz aW hsz hm l o_ (.lst (bF full)) (.int .i64 full.length) (.int .i64 i) l 0 N b rfl hr hN o_;obtain⟨M2,e2⟩:=ih (i+1) M (b++oY sz l) (bE hd) (λq hq=>hf q (.tail _ hq)) (λq hq=>hll q (.tail _ hq)) hM d_;refine⟨M2,?_⟩;have c0:((0:Nat):Int)=0:=rfl;rw[c0]at e;have ea:b++(l::r).flatMap (oY sz)=b++oY sz l++r.flatMap (oY sz):=u_;rw[ah Od,ea,<-e2];simp(disch:=omega)[↓ac,hg,e]
def HP {lf:Int}:∀{l:Q_},fitsS lf l->(l.length:Int)<=lf∨l=[]
 |[],_=>.inr rfl
 |x::r,hf=>by
  obtain⟨h1,h2⟩:=hf;have:=HP h2
  grind
def ape (b:C_)(hb:b.length<=400000000)(x:AV)(hx:x=.d (.lst (ak b))∨x=.nl∧b=[])(i:aM)(hi:i.Fit)(hm:i.may 11)(g:H_)(hf:arA g)(hg:jn i g):bq prog XC [x,.agg i.cells,.d (.lst (bF g))] =
  some (.tup [.own true 1 (ak (b++Q8 i g)),A_ 0]):=by
 have hc:=alU i hi g hf;rw[ac hm,ac hg]at hc;have h0:0<=i.max∧i.max<=100:=by have:=hm.2.2.1;have:=hm.2.2.2.1;grind [Gt]
 have hfd:=Vx i;have hsz:1<=i.fsz∧i.fsz<=5:=by grind [aM.fsz]
 have g8:g.length<=8:=by
  have h:=(dp hm).1;have h2:=(dp hm).2;have:=kO (λn hn=>(h n hn).1)
  grind [aM.many]
 have hll:∀l∈g,l.length<=100:=λl hl=>by
  rcases HP (hg.2 l hl) with h|h<;>grind
 have hp:=mp b 0 0 o_ o_ x hx;rw[ac k_]at hp;have t0:(0:Int).toNat=0:=rfl;rw[t0,au,be]at hp;obtain⟨M,e⟩:=ahv i.fsz (2 ^ i.fsz-1) hsz rfl i.max o_ g hf.1 g 0 3 b rfl hg.2 hll o_ o_;have c0:((0:Nat):Int)=0:=rfl;rw[c0]at e;simp only[aM.cells]at hc hfd;rw[aU ali alP rfl,Q8];rcases hx with rfl|⟨rfl,rfl⟩
 all_goals simp(disch:=omega)[↓ac,↓aa,hc,hfd,hp,e]
def aK (l:Q_):G_:=l.flatMap λs=>List.replicate s.len.toNat s.book
def Wy {l:G_}{x:Int}:aF (l++[x])=aF l++[[.int .i64 x]]:=by simp[aF]
theorem gQ {l:G_}:(aF l).length=l.length:=by simp[aF]
structure Tl {σ:Type}(hp:σ->am->am)(L:Nat):Prop where
 put:∀s K o,L<=K->Go.Vm.put (hp s []) K o=hp s [(K,o)]
 put2:∀s K o o',L<=K->Go.Vm.put (hp s [(K,o)]) K o'=hp s [(K,o')]
 get:∀s K o,L<=K->Go.Vm.get (hp s [(K,o)]) K=some o
 del:∀s K o,L<=K->Go.Vm.del (hp s [(K,o)]) K=hp s []
def uk {σ τ:Type}(st:Nat->Int->σ->Sum σ τ):G_->Nat->σ->Sum σ τ
 |[],_,s=>.inl s
 |k::r,a,s=>match st a k s with
  |.inl s=>uk st r (a+1) s
  |.inr z=>.inr z
def afd {σ τ:Type}{st:Nat->Int->σ->Sum σ τ}:∀{l r:G_}{a:Nat}{s:σ},uk st (l++r) a s=match uk st l a s with
  |.inl s=>uk st r (a+l.length) s
  |.inr z=>.inr z
 |[],r,a,s=>rfl
 |k::l,r,a,s=>by
  rw[aR,uk,uk]
  cases st a k s with
  |inl s=>simp only[afd,ar];rw[show a+(l.length+1)=a+1+l.length by omega]
  |inr z=>rfl
section
variable {σ τ:Type}{hp:σ->am->am}{hq:τ->am->am}{L l p:Nat}{bks:G_}{st:Nat->Int->σ->Sum σ τ}{di:Nat->σ->Prop}
def Rnd (hp:σ->am->am)(hq:τ->am->am)(L l:Nat)(bks:G_)(st:Nat->Int->σ->Sum σ τ)(di:Nat->σ->Prop):Prop :=
 ∀a k s K o N,bks[a]?=some k->di a s->L<=K->K<N->
  (∃s2,st a k s=.inl s2∧di (a+1) s2∧b7 (Dn prog) (.yield l) [A_ (a:Int),A_ k] ⟨hp s [(K,o)],N⟩=some (B_ true,⟨hp s2 [(K,o)],N⟩))∨
  (∃z,st a k s=.inr z∧b7 (Dn prog) (.yield l) [A_ (a:Int),A_ k] ⟨hp s [(K,o)],N⟩=some (B_ false,⟨hq z [(K,o)],N⟩))
def amg (H:Tl hp L)(H2:Tl hq L)(hY:Rnd hp hq L l bks st di)(full:Q_)(s0:aX)(hs0:s0.len<=1000)(i K N:Nat)(hK:L<=K)(hKN:K<N):∀(k j a:Nat) (s:σ),j+k=s0.len.toNat->(∀q,q<k->bks[a+q]?=some s0.book)->a+k<=100000000->di a s->
  (∃s2,uk st (List.replicate k s0.book) a s=.inl s2∧di (a+k) s2∧(Dn prog).code (.loop lB) ⟨[(0,.yield l),(3,A_ a),(5,.ptr K 0),(6,.d (.lst (gx full))),(7,A_ full.length),(8,A_ i),(13,A_ s0.len),(14,A_ j)],⟨hp s [(K,.cells [A_ s0.book,A_ s0.len])],N⟩⟩ =
   some (.exit 2,⟨[(0,.yield l),(3,A_ (a+k:Nat)),(6,.d (.lst (gx full))),(7,A_ full.length),(8,A_ i)],⟨hp s2 [],N⟩⟩))∨
  (∃z,uk st (List.replicate k s0.book) a s=.inr z∧(Dn prog).code (.loop lB) ⟨[(0,.yield l),(3,A_ a),(5,.ptr K 0),(6,.d (.lst (gx full))),(7,A_ full.length),(8,A_ i),(13,A_ s0.len),(14,A_ j)],⟨hp s [(K,.cells [A_ s0.book,A_ s0.len])],N⟩⟩ =
   some (.ret,⟨[],⟨hq z [],N⟩⟩)):=by
 have hG:=λs o=>H.get s K o hK
 have hD:=λs o=>H.del s K o hK
 have hD2:=λs o=>H2.del s K o hK
 intro k
 induction k with
 |zero =>
  intro j a s h1 h2 h3 hi;refine .inl ⟨s,rfl,hi,?_⟩;rw[ah vP];simp(maxSteps:=300000) (disch:=omega)[↓aa,hD]
 |succ k ih =>
  intro j a s h1 h2 h3 hi;have hb:=h2 0 o_;rw[dR]at hb;have c1:((j+1:Nat):Int)=(j:Int)+1:=rfl;have c2:((a+1:Nat):Int)=(a:Int)+1:=rfl;rw[cx];rcases hY a s0.book s K (.cells [A_ s0.book,A_ s0.len]) N hb hi hK hKN with ⟨s2,e1,e2,e3⟩|⟨z,e1,e3⟩
  .rw[uk,e1,ah vP];have e4:a+(k+1)=a+1+k:=o_;have h9:=ih (j+1) (a+1) s2 o_ (λq hq=>by rw[show a+1+q=a+(q+1) by omega];exact h2 (q+1) o_) o_ e2;rw[c1,c2]at h9;rw[e4];rcases h9 with ⟨s3,f1,f2,f3⟩|⟨z,f1,f3⟩
   .refine .inl ⟨s3,f1,f2,?_⟩;rw[<-f3];simp(maxSteps:=300000) (disch:=omega)[↓ac,↓aa,hG,-lc,e3]
   .refine .inr ⟨z,f1,?_⟩;rw[<-f3];simp(maxSteps:=300000) (disch:=omega)[↓ac,↓aa,hG,-lc,e3]
  .refine .inr ⟨z,by rw[uk,e1],?_⟩;rw[ah vP];simp(maxSteps:=300000) (disch:=omega)[↓ac,↓aa,hG,-lc,e3,hD2]
def alM (H:Tl hp L)(H2:Tl hq L)(hY:Rnd hp hq L l bks st di)(full:Q_)(hfl:full.length<=1000):∀(r:Q_) (i a N:Nat) (s:σ),full.drop i=r->(∀q∈r,0<=q.len∧q.len<=1000)->bks.drop a=aK r->a<=1000*i->L<=N->di a s->
  (∃s2 M,uk st (aK r) a s=.inl s2∧di (a+(aK r).length) s2∧N<=M∧(Dn prog).code (.loop lI) ⟨[(0,.yield l),(3,A_ a),(6,.d (.lst (gx full))),(7,A_ full.length),(8,A_ i)],⟨hp s [],N⟩⟩ =
   some (.exit 0,⟨[],⟨hp s2 [],M⟩⟩))∨
  (∃z M,uk st (aK r) a s=.inr z∧N<=M∧(Dn prog).code (.loop lI) ⟨[(0,.yield l),(3,A_ a),(6,.d (.lst (gx full))),(7,A_ full.length),(8,A_ i)],⟨hp s [],N⟩⟩ =
   some (.ret,⟨[],⟨hq z [],M⟩⟩)):=by
 intro r
 induction r with
 |nil =>
  intro i a N s hd hr hb ha hL hi;have hk:=bQ hd;refine .inl ⟨s,N,rfl,hi,ai _,?_⟩;rw[ah pr];simp(maxSteps:=300000) (disch:=omega)[↓aa]
 |cons q r ih =>
  intro i a N s hd hr hb ha hL hi;have hq:=hr q (.head _);have hlt:=cm hd;have hg:=yD hd;have eb:aK (q::r)=List.replicate q.len.toNat q.book++aK r:=by rw[aK,aG];rfl
  rw[eb]at hb;have hbk:∀j,j<q.len.toNat->bks[a+j]?=some q.book:=λj hj=>by
   have:=bl (λl=>l[j]?) hb;simp only[bW]at this;rw[this,bZ (by simpa using hj)];simp[hj]
  have hb2:bks.drop (a+q.len.toNat)=aK r:=by
   have:=bl (λl=>l.drop q.len.toNat) hb;simp only[lH]at this;rw[this,List.drop_left' s_]
  have hp1:=λo=>H.put s N o hL
  have hp2:=λo o'=>H.put2 s N o o' hL
  have hG:=λo=>H.get s N o hL
  have c1:((i+1:Nat):Int)=(i:Int)+1:=rfl;have c0:((0:Nat):Int)=0:=rfl;have h0:=amg H H2 hY full q hq.2 i N (N+1) hL o_ q.len.toNat 0 a s o_ hbk o_ hi;rw[c0]at h0;rw[eb,afd];rcases h0 with ⟨s2,e1,e2,e3⟩|⟨z,e1,e3⟩
  .have h9:=ih (i+1) (a+q.len.toNat) (N+1) s2 (bE hd) (λx hx=>hr x (.tail _ hx)) hb2 o_ o_ e2;rw[c1]at h9;rw[e1];simp only[al,bn];rcases h9 with ⟨s3,M,f1,f2,f3,f4⟩|⟨z,M,f1,f3,f4⟩
   .refine .inl ⟨s3,M,f1,by rw[<-dr];exact f2,o_,?_⟩;rw[ah pr,<-f4];simp(maxSteps:=300000) (disch:=omega)[↓ac,↓aa,hg,hp1,hp2,hG,e3]
   .refine .inr ⟨z,M,f1,o_,?_⟩;rw[ah pr,<-f4];simp(maxSteps:=300000) (disch:=omega)[↓ac,↓aa,hg,hp1,hp2,hG,e3]
  .rw[e1];refine .inr ⟨z,N+1,rfl,o_,?_⟩;rw[ah pr];simp(maxSteps:=300000) (disch:=omega)[↓ac,↓aa,hg,hp1,hp2,hG,e3]
def Ze (H:Tl hp L)(H2:Tl hq L)(full:Q_)(hY:Rnd hp hq L l (aK full) st di)(hgp:∀s,get (hp s []) p=some (.cells [.d (.lst (gx full))]))(hfl:full.length<=1000)(hr:∀q∈full,0<=q.len∧q.len<=1000)(N:Nat)(s:σ)(hN:L<=N)(hi:di 0 s) :
  (∃s2 M,uk st (aK full) 0 s=.inl s2∧di (aK full).length s2∧N<=M∧(Dn prog).call iK [.yield l,.ptr p 0] ⟨hp s [],N⟩=some (.tup [],⟨hp s2 [],M⟩))∨
  (∃z M,uk st (aK full) 0 s=.inr z∧N<=M∧(Dn prog).call iK [.yield l,.ptr p 0] ⟨hp s [],N⟩=some (.tup [],⟨hq z [],M⟩)):=by
 have h:=alM H H2 hY full hfl full 0 0 N s rfl hr rfl o_ hN hi;have c0:((0:Nat):Int)=0:=rfl;rw[c0,br]at h;rw[ba Xp XS rfl];rcases h with ⟨s2,M,e1,e2,e3,e4⟩|⟨z,M,e1,e3,e4⟩
 .refine .inl ⟨s2,M,e1,e2,e3,?_⟩;simp(maxSteps:=300000) (disch:=omega)[hgp,e4]
 .refine .inr ⟨z,M,e1,e3,?_⟩;simp(maxSteps:=300000) (disch:=omega)[hgp,e4]
end
def Jx (x:D)(h:am)(N:Nat):(Dn prog).call E4 [.d x] ⟨h,N⟩=some (.fn iK [] [.ptr N 0],⟨put h N (.cells [.d x]),N+1⟩):=by
 rw[ba acM act rfl];simp(maxSteps:=300000) (disch:=omega)
abbrev aH:=@List.getElem?_eq_some_iff
def c7 (t:L_):E_:=t.map λl=>[.lst (aF l)]
@[simp] def aoS {t:L_}:(c7 t).length=t.length:=by simp[c7]
def Qm {g:L_}{i:Nat}{l:G_}{r:L_}(h:g.drop i=l::r):(c7 g)[i]?=some [.lst (aF l)]:=by
 grind [List.getElem?_cons_zero,c7]
def zu {l:G_}{i:Nat}{k:Int}{r:G_}(h:l.drop i=k::r):(aF l)[i]?=some [.int .i64 k]:=by
 grind [List.getElem?_cons_zero,aF]
def dF:G_->G_->Int->Int->Option (Int×Int)
 |[],[],w,z=>some (w,z)
 |k::r,n::t,w,z=>if k=0 then (if n=0 then dF r t w z else none) else if kW k n w z then (if k=13 then dF r t w n else dF r t n z) else none
 |_,_,_,_=>none
def lX:H_->L_->Int->Int->Option (Int×Int)
 |[],[],w,z=>some (w,z)
 |l::r,t::s,w,z=>match dF (aK l) t w z with
  |some (w,z)=>lX r s w z
  |none=>none
 |_,_,_,_=>none
abbrev zi (gain:Int)(g:H_)(t:L_):Prop:=lX g t gain (-1)≠none
theorem Jc:∀{g:H_}{t:L_}{w z:Int},lX g t w z≠none->g.length=t.length
 |[],[],_,_,_=>rfl
 |[],_::_,_,_,h=>absurd rfl h
 |_::_,[],_,_,h=>absurd rfl h
 |l::r,t::s,w,z,h=>by
  rw[lX]at h;split at h
  .simp only[ar,Jc h]
  simp_all
abbrev tj (w:Int):Prop:=-1<=w∧w<=511
def PN {k n w z:Int}(h:kW k n w z):tj n:=by
 grind
def jC (k n w z:Int):Int×Int:=if k=0 then (w,z) else if k=13 then (w,n) else (n,z)
def oN {k n:Int}{r t:G_}{w z:Int}(h:dF (k::r) (n::t) w z≠none):(k=0->n=0)∧(k≠0->kW k n w z)∧dF (k::r) (n::t) w z=dF r t (jC k n w z).1 (jC k n w z).2:=by
 grind [dF,jC]
def abe {bks t:G_}{a:Nat}{k:Int}{w z:Int}(hk:bks[a]?=some k)(h:dF (bks.drop a) (t.drop a) w z≠none):∃n,t.drop a=n::t.drop (a+1)∧(k=0->n=0)∧(k≠0->kW k n w z)∧dF (bks.drop a) (t.drop a) w z=dF (bks.drop (a+1)) (t.drop (a+1)) (jC k n w z).1 (jC k n w z).2:=by
 obtain⟨hlt,e⟩:=aH.1 hk;have h1:=dY hlt;rw[e]at h1;rw[h1]at h⊢
 cases h2:t.drop a with
 |nil=>rw[h2]at h;exact absurd rfl h
 |cons n r =>
  have h3:t.drop (a+1)=r:=bE h2;rw[h2]at h;obtain⟨a1,a2,a3⟩:=oN h
  simp_all
abbrev hpK (ss:L_)(g N:Nat)(l:Q_)(e:aV)(s:Nat×Int×Int)(T:am):am :=
 (0,.cells [.d (.lst (c7 ss))])::(1,.cells [A_ 0])::(2,.cells [A_ s.2.1,A_ s.2.2])::(3,.cells [.ptr 2 0])::(N,.cells [A_ g])::(N+1,.cells [A_ s.1])::(N+1+1,.cells [.d (.lst (gx l))])::(N+1+1+1,.loop e [36,37] kP kI false none)::T
abbrev al9 (gs:H_)(g N:Nat):aV:=[(5,.ptr 0 0),(6,.ptr 1 0),(7,.ptr 3 0),(8,.ptr N 0),(10,.ptr (N+1) 0),(27,.d (.lst (bF gs))),(28,A_ gs.length),(29,A_ g),(35,.fn iK [] [.ptr (N+1+1) 0])]
def aA1 {ss:L_}{g N:Nat}{l:Q_}{e:aV}(hN:4<=N):Tl (hpK ss g N l e) (N+1+1+1+1):=by
 constructor
 .intro s K o h;simp(disch:=omega)[↓aa]
 .intro s K o o' h;simp(disch:=omega)[↓aa]
 .intro s K o h;simp(disch:=omega)[↓aa]
 .intro s K o h;simp(disch:=omega)[↓aa]
def noH (z:Empty)(_:am):am:=nomatch z
def alr {L:Nat}:Tl noH L:=by constructor<;>(grind)
structure LK (F:Obj->Int->Int->Int->am)(ss:L_)(g:Int)(L N:Nat):Prop where
 gl:∀q m w z,get (F q m w z) L=some q
 pl:∀q m w z q',put (F q m w z) L q'=F q' m w z
 g0:∀q m w z,get (F q m w z) 0=some (.cells [.d (.lst (c7 ss))])
 g2:∀q m w z,get (F q m w z) 2=some (.cells [A_ w,A_ z])
 p2:∀q m w z w' z',put (F q m w z) 2 (.cells [A_ w',A_ z'])=F q m w' z'
 g3:∀q m w z,get (F q m w z) 3=some (.cells [.ptr 2 0])
 gN:∀q m w z,get (F q m w z) N=some (.cells [A_ g])
 gM:∀q m w z,get (F q m w z) (N+1)=some (.cells [A_ m])
 pM:∀q m w z m',put (F q m w z) (N+1) (.cells [A_ m'])=F q m' w z
def ayO {F:Obj->Int->Int->Int->am}{L:Nat}(ss:L_)(hss:ss.length<=1000)(gs:H_)(hgs:gs.length<=1000)(g N:Nat)(H:LK F ss g L N)(t:G_)(ht:t.length<=100000)(hg:(c7 ss)[g]?=some [.lst (aF t)])(a:Nat)(k:Int)(w z:Int)(M:Nat)(n:Int)(r:G_)(hd:t.drop a=n::r)(h0:k=0->n=0)(h1:k≠0->kW k n w z)(hk:0<=k∧k<=13)(hw:tj w)(hz:tj z) :
  b7 (Dn prog) (.yield L) [A_ (a:Int),A_ k] ⟨F (.loop (al9 gs g N) [36,37] kP kI false none) a w z,M⟩=some (B_ true,⟨F (.loop (al9 gs g N) [36,37] kP kI false none) (a+1) (jC k n w z).1 (jC k n w z).2,M⟩):=by
 have ha:=cm hd;have hn:=zu hd;have gl:g<ss.length:=by
  obtain⟨h,_⟩:=aH.1 hg;simpa using h
 have T:=λq m=>LR (hp:=λw z=>F q m w z) (A:=2) ⟨λs z=>H.g2 q m s z,λs z s' z'=>H.p2 q m s z s' z'⟩ k n w z M
 by_cases k0:k=0
 .have:=h0 k0;subst k0 this;simp(disch:=omega)[yL,yQ,↓ac,↓aa,hg,hn,H.gl,H.pl,H.g0,H.gN,H.gM,H.pM,jC]
 .have hT:=h1 k0;have hn5:=PN hT;have T:=λq m=>T q m o_ o_ (by omega)
  simp only[ac hT]at T;have e:(jC k n w z)=if k=13 then (w,n) else (n,z):=by rw[jC,aa k0]
  by_cases k13:k=13
  .rw[e,ac k13];simp(disch:=omega)[yL,yQ,↓ac,↓aa,hg,hn,H.gl,H.pl,H.g0,H.g3,H.gN,H.gM,H.pM,T]
  .rw[e,aa k13];simp(disch:=omega)[yL,yQ,↓ac,↓aa,hg,hn,H.gl,H.pl,H.g0,H.g3,H.gN,H.gM,H.pM,T]
abbrev FK (ss:L_)(g N:Nat)(l:Q_)(T:am)(q:Obj)(m w z:Int):am :=
 (0,.cells [.d (.lst (c7 ss))])::(1,.cells [A_ 0])::(2,.cells [A_ w,A_ z])::(3,.cells [.ptr 2 0])::(N,.cells [A_ g])::(N+1,.cells [A_ m])::(N+1+1,.cells [.d (.lst (gx l))])::(N+1+1+1,q)::T
def ayP {ss:L_}{g N:Nat}{l:Q_}{T:am}(hN:4<=N):LK (FK ss g N l T) ss g (N+1+1+1) N:=by
 constructor<;>intro q m w z<;>(try intro q')<;>(try intro q'')<;>simp(disch:=omega)[↓aa]
def azd (ss:L_)(hss:ss.length<=1000)(gs:H_)(hgs:gs.length<=1000)(g N:Nat)(hN:4<=N)(t:G_)(ht:t.length<=100000)(hg:(c7 ss)[g]?=some [.lst (aF t)])(l:Q_)(hl:∀k∈aK l,0<=k∧k<=13)(fin:Int×Int) :
  Rnd (hpK ss g N l (al9 gs g N)) noH (N+1+1+1+1) (N+1+1+1) (aK l) (λa k s=>.inl (a+1,jC k (nth t a) s.2.1 s.2.2)) (λa s=>s.1=a∧tj s.2.1∧tj s.2.2∧dF ((aK l).drop a) (t.drop a) s.2.1 s.2.2=some fin):=by
 intro a k s K o M hk hi hK hM;obtain⟨i1,i2,i3,i4⟩:=hi;obtain⟨n,d1,d2,d3,d4⟩:=abe hk (by rw[i4];simp);have hn:nth t a=n:=by
  grind [cm,pP]
 have hkm:=hl k d_;rw[i4]at d4;have hgo:tj (jC k n s.2.1 s.2.2).1∧tj (jC k n s.2.1 s.2.2).2:=by
  grind [jC]
 refine .inl ⟨(a+1,jC k n s.2.1 s.2.2),u_,⟨rfl,hgo.1,hgo.2,d4.symm⟩,?_⟩;obtain⟨m,w,z⟩:=s;subst i1;have:=ayO ss hss gs hgs g N (ayP (ss:=ss) (g:=g) (l:=l) (T:=[(K,o)]) hN) t ht hg m k w z M n _ d1 d2 d3 hkm i2 i3;exact this
def Mi {l:Q_}{lf:Int}(h:fitsS lf l):∀k∈aK l,0<=k∧k<=13:=by
 induction l generalizing lf with
 |nil=>grind [aK]
 |cons s r ih =>
  intro k hk;obtain⟨h1,h2⟩:=h
  grind [aK]
abbrev aB0 (ss:L_)(w z:Int):am:=[(0,.cells [.d (.lst (c7 ss))]),(1,.cells [A_ 0]),(2,.cells [A_ w,A_ z]),(3,.cells [.ptr 2 0])]
def afJ {t:G_}{a:Nat}{w z:Int}{fin:Int×Int}(h:dF [] (t.drop a) w z=some fin):(w,z)=fin∧t.length<=a:=by
 cases h1:t.drop a<;>simp_all [dF]
theorem UK:∀{bks t:G_}{w z:Int}{fin:Int×Int},dF bks t w z=some fin->bks.length=t.length
 |[],[],_,_,_,_=>rfl
 |[],_::_,_,_,_,h=>absurd h (by simp[dF])
 |_::_,[],_,_,_,h=>absurd h (by simp[dF])
 |k::r,n::t,w,z,fin,h=>by
  have h1:=oN (by rw[h];simp);rw[h]at h1;have:=UK h1.2.2.symm
  simp_all
def ZI (ss:L_)(hss:ss.length<=1000)(hss2:∀t∈ss,t.length<=100000)(gs:H_)(hgs:gs.length<=1000)(m:Int)(hm:m<=1000):∀(gr:H_) (sr:L_) (i N:Nat) (w z:Int),gs.drop i=gr->ss.drop i=sr->fk m gr->(∀l∈gr,l.length<=1000)->tj w->tj z->lX gr sr w z≠none->4<=N->
  ∃M w' z',(Dn prog).code (.loop sF) ⟨[(5,.ptr 0 0),(6,.ptr 1 0),(7,.ptr 3 0),(27,.d (.lst (bF gs))),(28,A_ gs.length),(29,A_ i)],⟨aB0 ss w z,N⟩⟩ =
  some (.exit 0,⟨[(6,.ptr 1 0)],⟨[(1,.cells [A_ 0]),(2,.cells [A_ w',A_ z'])],M⟩⟩):=by
 intro gr
 induction gr with
 |nil =>
  intro sr i N w z hd hd2 hf hl hw hz hr hN;have hi:=bQ hd;refine⟨N,w,z,?_⟩;rw[ah HI];simp(disch:=omega)[↓ac,↓aa]
 |cons l r ih =>
  intro sr i N w z hd hd2 hf hl hw hz hr hN;have hg:=pb hd;have hlt:=cm hd;have hfl:=hf l (.head _);have hll:=hl l (.head _)
  cases sr with
  |nil=>exact absurd rfl hr
  |cons t s =>
   have hgt:=Qm hd2;have htl:=hss2 t (by rw[<-aT i ss,hd2];simp);have hlt2:=cm hd2;rw[lX]at hr
   cases hrow:dF (aK l) t w z with
   |none=>simp_all
   |some fin =>
    rw[hrow]at hr;have hlen:=UK hrow;have hb:=Ze (p:=N+1+1) (aA1 (ss:=ss) (g:=i) (l:=l) (e:=al9 gs i N) hN) alr l (azd ss hss gs hgs i N hN t htl hgt l (Mi hfl) fin) (λs=>by simp(disch:=omega)[↓aa]) hll (λq hq=>by have:=(s9 hfl hm q hq).1;omega) (N+1+1+1+1) (0,w,z) (ai _) ⟨rfl,hw,hz,u_⟩;rcases hb with ⟨⟨m2,w2,z2⟩,M,e1,⟨e2,e3,e4,e5⟩,e6,e7⟩|⟨z,_⟩
    .rw[cH (ai _)]at e5;obtain⟨e8,e9⟩:=afJ e5;subst e8;obtain⟨M2,w3,z3,f⟩:=ih s (i+1) M w2 z2 (bE hd) (bE hd2) (λq hq=>hf q (.tail _ hq)) (λq hq=>hl q (.tail _ hq)) e3 e4 hr o_;refine⟨M2,w3,z3,?_⟩;have c0:((0:Nat):Int)=0:=rfl;simp only[hpK,c0]at e7;rw[ah HI,<-f];simp(disch:=omega)[↓ac,↓aa,hg,hgt,Jx,rd,e7]
    grind
def aia (gain m:Int)(g:H_)(t:L_)(hgn:0<=gain∧gain<=255)(hl:g.length<=8)(hm:0<=m∧m<=40)(hf:fk m g)(hf2:∀l∈g,l.length<=1000)(ht:zi gain g t)(ht2:∀l∈t,l.length<=100000) :
  bq prog NI [A_ gain,.d (.lst (bF g)),.d (.lst (c7 t))]=some (A_ 0):=by
 have h1:=aaW gain m g hgn hl hm λl h=>⟨hf l h,hf2 l h⟩
 have hlen:=Jc ht;obtain⟨M,w,z,e⟩:=ZI t o_ ht2 g o_ m o_ g t 0 4 gain (-1) rfl rfl hf hf2 o_ o_ ht (ai _);have c0:((0:Nat):Int)=0:=rfl;rw[c0]at e;rw[aU acG ack rfl];simp(disch:=omega)[↓ac,↓aa,h1,e]
abbrev cY:=@List.exists_cons_of_ne_nil
def Bu (xs:AD_):E_:=xs.map λl=>[.lst (ak l)]
@[simp] def aAC {t:AD_}:(Bu t).length=t.length:=by simp[Bu]
def PK {g:AD_}{i:Nat}{l:C_}{r:AD_}(h:g.drop i=l::r):(Bu g)[i]?=some [.lst (ak l)]:=by
 have:=bl (λl=>l[0]?) h;simp only[bW,bX,dR]at this;rw[Bu,bS,this];rfl
def cP {l:C_}:(ak l).length=l.length:=by simp[ak]
def aoI (xs:AD_)(hx:xs.length<=1000)(h:am)(N:Nat):∀(r:AD_) (i:Nat) (n:Nat),xs.drop i=r->n+r.flatten.length<=1000000000->
  (Dn prog).code (.loop j0) ⟨[(0,.d (.lst (Bu xs))),(3,A_ n),(9,.d (.lst (Bu xs))),(10,A_ xs.length),(11,A_ i)],⟨h,N⟩⟩ =
  some (.exit 0,⟨[(0,.d (.lst (Bu xs))),(3,A_ (n+r.flatten.length:Nat))],⟨h,N⟩⟩):=by
 intro r
 induction r with
 |nil =>
  intro i n hd hn;have hi:=bQ hd;rw[ah v8];simp(maxSteps:=300000) (disch:=omega)[↓aa]
 |cons l r ih =>
  intro i n hd hn;have hg:=PK hd;have hlt:=cm hd;simp only[dj,al]at hn⊢;have h5:=ih (i+1) (n+l.length) (bE hd) o_;have c1:((i+1:Nat):Int)=(i:Int)+1:=rfl;have c2:((n+l.length:Nat):Int)=(n:Int)+l.length:=rfl;rw[c1,c2,dr]at h5;rw[ah v8,<-h5];simp(maxSteps:=300000) (disch:=omega)[↓ac,↓aa,hg,cP]
def anP (xs:AD_)(hx:xs.length<=1000)(h:am)(N:Nat):∀(r:AD_) (i:Nat) (acc:C_),xs.drop i=r->acc.length+r.flatten.length<=1000000000->
  (Dn prog).code (.loop jK) ⟨[(6,.own false 1 (ak acc)),(25,.d (.lst (Bu xs))),(26,A_ xs.length),(27,A_ i)],⟨h,N⟩⟩ =
  some (.exit 2,⟨[(6,.own false 1 (ak (acc++r.flatten)))],⟨h,N⟩⟩):=by
 intro r
 induction r with
 |nil =>
  intro i acc hd hn;have hi:=bQ hd;rw[ah nG];simp(maxSteps:=300000) (disch:=omega)[↓aa]
 |cons l r ih =>
  intro i acc hd hn;have hg:=PK hd;have hlt:=cm hd;simp only[dj,al]at hn⊢;have h5:=ih (i+1) (acc++l) (bE hd) (by simp only[al];omega);have c1:((i+1:Nat):Int)=(i:Int)+1:=rfl;rw[c1,ay]at h5;rw[ah nG,<-h5];simp(maxSteps:=300000) (disch:=omega)[↓ac,↓aa,hg,cP]
def at2 (n:Nat)(hn:0<n∧n<=1000000000):(Dn prog).call BR [.nl,A_ n] ⟨[],0⟩=some (.sl 0 0 0,⟨[(0,.arr 1 (List.replicate n [.int .u8 0]))],1⟩):=by
 have e1:dM (A_ n) aW=some n:=by rw[wD o_ (by simp only[aW];omega)];simp
 have e2:FN [.int .u8 0] [] .nl (A_ n)=some (.own true 1 (List.replicate n [.int .u8 0]),[]):=by
  unfold FN;rw[e1];obtain⟨m,rfl⟩:∃m,n=m+1:=⟨n-1,o_⟩
  simp(disch:=omega)[cx,↓ac]
 have e0:dM (A_ 0) n=some 0:=wD o_ o_;have e3:pU [] 1 .nl none (some (.int .i64 0)) none=some .nl:=rfl;have e4:pU [(0,.arr 1 (List.replicate n [D.int .u8 0]))] 1 (.sl 0 0 n) none (some (.int .i64 0)) none=some (.sl 0 0 0):=by
  simp[pU,okSl,tU,lenOf,vF,e0,uN]
 rw[ba OJ OH rfl];simp(maxSteps:=300000) (disch:=omega)[↓ac,↓aa,YT,e2,e3,e4]
def ae4 (xs:AD_)(hx:xs.length<=1000)(hn:0<xs.flatten.length∧xs.flatten.length<=1000000000):bq prog zH [.d (.lst (Bu xs))]=some (.own true 1 (ak xs.flatten)):=by
 have h0:=aoI xs hx [] 0 xs 0 0 rfl o_;have h2:=at2 xs.flatten.length hn;have c0:((0:Nat):Int)=0:=rfl;rw[br,c0]at h0;have hne:xs≠[]:=by intro h;subst h;simp at hn
 obtain⟨l,r,e⟩:=cY hne;have h1:=anP xs hx [] 1 r 1 l (by rw[e];rfl) (by rw[e]at hn;simpa using hn.2);have hg:=PK (g:=xs) (i:=0) (l:=l) (r:=r) (by rw[e];rfl);have hlt:0<xs.length:=bH.2 hne;have e5:l++r.flatten=xs.flatten:=by rw[e];rfl
 rw[e5]at h1;have hll:l.length<=1000000000:=by rw[<-e5,al]at hn;omega
 clear e5 e;generalize xs.flatten=F at *;have c1:((1:Nat):Int)=1:=rfl;rw[c1]at h1;rw[aU Kq Lu rfl];simp(maxSteps:=300000) (disch:=omega)[↓ac,↓aa,h0,h2];rw[ah nG];simp(maxSteps:=300000) (disch:=omega)[↓ac,↓aa,hg,cP,h1]
def cG (n:Nat):Nat:=if n=0 then 0 else n.log2+1
def Ge {n:Nat}:n<2 ^ cG n:=by
 unfold cG;by_cases h:n=0
 .subst h;decide
 .rw[aa h];exact(Nat.log2_lt h).1 (Nat.lt_succ_self _)
def tN {n:Nat}(h:n≠0):2 ^ (cG n-1)<=n:=by
 unfold cG;rw[aa h,de];exact(Nat.le_log2 h).1 (ai _)
def anT {n k:Nat}(h1:2 ^ k<=n)(h2:n<2 ^ (k+1)):cG n=k+1:=by
 have h0:n≠0:=by have:=bM k;omega
 unfold cG;rw[aa h0];have a:=(Nat.le_log2 h0).2 h1;have b:=(Nat.log2_lt h0).2 h2;omega
def apb {n:Nat}(h:256<=n):cG n=8+cG (n / 256):=by
 have h0:n / 256≠0:=o_;obtain⟨k,hk⟩:∃k,cG (n / 256)=k+1:=⟨cG (n / 256)-1,by unfold cG;rw[aa h0];omega⟩
 have a:=Ge (n:=n / 256);have b:=tN h0;rw[hk]at a b⊢;rw[de]at b;rw[anT (k:=k+8)]
 .omega
 .rw[Nat.pow_add];omega
 .rw[show k+8+1=k+1+8 by omega,Nat.pow_add];omega
def ZQ:BC_:=[0,1,2,2,3,3,3,3,4,4,4,4,4,4,4,4,5,5,5,5,5,5,5,5,5,5,5,5,5,5,5,5,6,6,6,6,6,6,6,6,6,6,6,6,6,6,6,6,6,6,6,6,6,6,6,6,6,6,6,6,6,6,6,6,7,7,7,7,7,7,7,7,7,7,7,7,7,7,7,7,7,7,7,7,7,7,7,7,7,7,7,7,7,7,7,7,7,7,7,7,7,7,7,7,7,7,7,7,7,7,7,7,7,7,7,7,7,7,7,7,7,7,7,7,7,7,7,7,8,8,8,8,8,8,8,8,8,8,8,8,8,8,8,8,8,8,8,8,8,8,8,8,8,8,8,8,8,8,8,8,8,8,8,8,8,8,8,8,8,8,8,8,8,8,8,8,8,8,8,8,8,8,8,8,8,8,8,8,8,8,8,8,8,8,8,8,8,8,8,8,8,8,8,8,8,8,8,8,8,8,8,8,8,8,8,8,8,8,8,8,8,8,8,8,8,8,8,8,8,8,8,8,8,8,8,8,8,8,8,8,8,8,8,8,8,8,8,8,8,8,8,8,8,8,8,8]
def apR:∀n,n<256->(ZQ[n]?).map UInt8.toNat=some (cG n):=e_
def aiJ {n:Nat}(h:n<256):alA (.d (.str ZQ)) (.d (.int .u8 n))=some (.int .u8 (cG n)):=by
 have:=apR n h;show(match ZQ[n]? with|some b=>some (D.int .u8 (.ofNat b.toNat))|none=>none)=_
 cases hx:ZQ[n]? with
 |none=>rw[hx]at this;exact absurd this (by simp)
 |some b =>
  rw[hx]at this;injection this with this
  show some (D.int .u8 ((b.toNat:Nat):Int))=_;rw[this]
def aCw {n:Nat}:fg .shr (.d (.int .u64 (n:Int))) (.d (.int .u64 8))=some (.int .u64 ((n / 256:Nat):Int)):=by
 rw[ku o_];have:min ((8:Int)).toNat IntKind.u64.bits=8:=rfl;rw[this,jH _ (pQ _),<-Int.natCast_ediv]
def agw (n:Nat)(hn:n<65536):bq prog Ji [.d (.int .u64 n)]=some (A_ (cG n)):=by
 have h64:bq prog Fq [.d (.int .u64 n)]=some (A_ (cG n)):=by
  rw[aU SH Sy rfl];by_cases h:256<=n
  .have h2:=aiJ (n:=n / 256) o_;have h3:=apb h;have h4:cG (n / 256)<=8:=by
    have a:=tN (n:=n / 256) o_;rcases bt 8 (cG (n / 256)) with h|h
    .have:2 ^ 8<=2 ^ (cG (n / 256)-1):=aw o_ o_;omega
    .exact h
   have c1:((n / 256:Nat):Int)=(n:Int) / 256:=o_;rw[ZQ,c1]at h2;rw[h3];simp(maxSteps:=300000) (disch:=omega)[↓ac,↓aa,-ku,aCw,h2]
  .have h2:=aiJ (n:=n) o_;have h4:cG n<=8:=by
    by_cases h0:n=0
    .subst h0;decide
    .have a:=tN (n:=n) h0;rcases bt 8 (cG n) with h|h
     .have:2 ^ 8<=2 ^ (cG n-1):=aw o_ o_;omega
     .exact h
   rw[ZQ]at h2;simp(maxSteps:=300000) (disch:=omega)[↓ac,↓aa,-ku,h2]
 rw[aU Xt WQ rfl];simp(maxSteps:=300000) (disch:=omega)[↓ac,↓aa,h64,ak2]
abbrev ub:=@Int.natCast_mul
abbrev mt:=@Nat.and_two_pow_sub_one_eq_mod
def kK (low:Int)(w:Nat):G_->Nat->Nat
 |[],n=>n
 |v::r,n=>kK low w r (n*w+(v-low).toNat)
abbrev Qf (id:Nat)(vs:G_):Prop:=vs.length=dX id∧∀v∈vs,da id<=v∧v<da id+cu id
def Gk {low:Int}{w:Nat}:∀{r:G_}{n j:Nat},(∀v∈r,low<=v∧v<low+w)->n<w ^ j->kK low w r n<w ^ (j+r.length)
 |[],n,j,_,h=>h
 |v::r,n,j,hr,h=>by
  have h1:=hr v (.head _);have h2:n*w+(v-low).toNat<w ^ (j+1):=by
   rw[cW];have:(n+1)*w<=w ^ j*w:=bU _ h;rw[cZ]at this;omega
  have:=Gk (r:=r) (λq hq=>hr q (.tail _ hq)) h2;rw[kK,ar,show j+(r.length+1)=j+1+r.length by omega];exact this
def abY (id:Nat)(hid:jf id)(vs:G_)(hl:vs.length=dX id)(N:Nat):∀(r:G_) (i n:Nat),vs.drop i=r->(∀v∈r,da id<=v∧v<da id+cu id)->n<cu id ^ i->
  (Dn prog).code (.loop uu) ⟨[(6,.ptr 0 0),(8,A_ n),(26,.d (.lst (aF vs))),(27,A_ vs.length),(28,A_ i)],⟨[(0,.cells [A_ (dX id),A_ (da id),A_ (da id+cu id-1),A_ (bI id)])],N⟩⟩ =
  some (.exit 1,⟨[(8,A_ (kK (da id) (cu id) r n))],⟨[],N⟩⟩):=by
 obtain⟨k1,k2,k3,k4,k5,k6,k7⟩:=lj id (fK hid);have hmany:bh id=cu id ^ dX id:=rfl;intro r
 induction r with
 |nil =>
  intro i n hd hr hn;have hi:=bQ hd;rw[ah Iw,kK];simp(maxSteps:=300000) (disch:=omega)[↓aa]
 |cons v r ih =>
  intro i n hd hr hn;have hv:=hr v (.head _);have hg:=zu hd;have hlt:=cm hd;have hw:=aaq (dX id) (da id) (bI id) (cu id) o_ o_;have h2:n*cu id+(v-da id).toNat<cu id ^ (i+1):=by
   rw[cW];have:(n+1)*cu id<=cu id ^ i*cu id:=bU _ hn;rw[cZ]at this;omega
  have h3:cu id ^ (i+1)<=cu id ^ dX id:=aw o_ o_;have h5:=ih (i+1) (n*cu id+(v-da id).toNat) (bE hd) (λq hq=>hr q (.tail _ hq)) h2;have c1:((i+1:Nat):Int)=(i:Int)+1:=rfl;have h4:n*cu id<=300:=o_;have c2:((n*cu id+(v-da id).toNat:Nat):Int)=(n:Int)*cu id+v-da id:=by
   have:(((v-da id).toNat:Nat):Int)=v-da id:=o_;rw[Int.natCast_add,ub,this];omega
  have h6:0<=(n:Int)*cu id∧(n:Int)*cu id<=300:=by
   have:(n:Int)*cu id=((n*cu id:Nat):Int):=by rw[ub]
   omega
  rw[c1,c2]at h5;rw[ah Iw,kK,<-h5];simp(maxSteps:=300000) (disch:=omega)[↓ac,↓aa,hg,hw]
def WG (id:Nat)(hid:jf id)(vs:G_)(hv:Qf id vs):bq prog Pc [A_ id,.d (.lst (aF vs))]=some (.tup [A_ (kK (da id) (cu id) vs 0),A_ 0]):=by
 have ho:=Na id (fK hid);have h:=abY id hid vs hv.1 1 vs 0 0 rfl hv.2 (by rw[Nat.pow_zero];omega);have c0:((0:Nat):Int)=0:=rfl;have hl:=hv.1;obtain⟨k1,k2,k3,k4,k5,k6,k7⟩:=lj id (fK hid);simp only[SK]at ho;rw[c0]at h;rw[aU agm adH rfl];simp(maxSteps:=300000) (disch:=omega)[↓ac,↓aa,ho,h]
def Ma:∀id∈ids,(dy id).all (λe=>decide (e<bh id))=true∧(dy id).length=bh id∧bI id<=2:=e_
def Zh {id e:Nat}(h:jf id)(he:e<bh id):nth (dy id) e<bh id:=by
 obtain⟨h1,h2,_⟩:=Ma id (fK h);have:=bC.1 h1 _ (iP (l:=dy id) (i:=e) o_);simpa using this
def jS (id e:Nat):C_:=au (nth (dy id) e / 2 ^ bI id+1) (2*cG (nth (dy id) e / 2 ^ bI id+1)-1)++au (nth (dy id) e % 2 ^ bI id) (bI id)
def av6 {n k P:Nat}(hP:2 ^ k=P)(hk:k<=62)(h:n<9223372036854775808):fg .and (A_ (n:Int)) (A_ ((P:Int)-1))=some (.int .i64 ((n % P:Nat):Int)):=by
 have h1:2 ^ k<=2 ^ 62:=aw o_ hk;have h2:=bM k;have:=an2 (k:=.i64) (a:=n) (b:=2 ^ k-1) (by simpa [oF,IntKind.signed] using h) (by simp[oF,IntKind.signed];omega);rw[mt]at this;subst hP;have c:((2 ^ k-1:Nat):Int)=((2 ^ k:Nat):Int)-1:=o_;rw[c]at this;exact this
def aa2 (id e:Nat)(hid:jf id)(he:e<bh id):bq prog Tp [mS id,A_ e]=some (.tup [.own true 1 (ak (jS id e)),A_ 0]):=by
 have hr:=Wb id hid;obtain⟨h1,h2,h3⟩:=Ma id (fK hid);have hm:bh id<=300:=by have:=lj id (fK hid);omega
 have hrk:=Zh hid he;have hg:(cN (dy id))[e]?=some [.int .i64 (nth (dy id) e:Nat)]:=Dk o_;unfold jS;simp only[mS]at hr⊢;generalize nth (dy id) e=r at *;have q1:=akF (n:=r) (k:=bI id) o_;have q2:=RX (m:=bI id) o_;have hP:1<=2 ^ bI id∧2 ^ bI id<=2 ^ 2:=⟨bM _,aw o_ h3⟩
 have hmod:r % 2 ^ bI id<2 ^ bI id:=dO _ hP.1;have q3:=av6 (n:=r) (k:=bI id) rfl o_ o_;have hdv:r / 2 ^ bI id<=r:=kC _ _;have hr3:r<300:=o_;generalize hPP:2 ^ bI id=PP at *;generalize r / PP=RQ at *;generalize r % PP=RM at *;have q4:=agw (RQ+1) o_;have hL1:=Ge (n:=RQ+1);have hL2:=tN (n:=RQ+1) o_;have hL9:cG (RQ+1)<=9:=by
  rcases bt 9 (cG (RQ+1)) with h|h
  .have:2 ^ 9<=2 ^ (cG (RQ+1)-1):=aw o_ o_;omega
  .exact h
 have hL0:1<=cG (RQ+1):=by unfold cG;rw[aa o_];omega
 have hpw:2 ^ cG (RQ+1)<=2 ^ (2*cG (RQ+1)-1):=aw o_ o_;have p1:=mp [] ((RQ+1:Nat):Int) ((2*cG (RQ+1)-1:Nat):Int) s_ o_ .nl (.inr ⟨rfl,rfl⟩);have ho1:qt ((RQ+1:Nat):Int) ((2*cG (RQ+1)-1:Nat):Int):=by
  simp only[qt,aq];generalize 2 ^ (2*cG (RQ+1)-1)=Z at *;omega
 rw[ac ho1]at p1;have p2:=λb (hb:b.length<=900000000)=>mp b (RM:Int) ((bI id:Nat):Int) hb o_ _ (.inl rfl)
 have ho2:qt (RM:Int) ((bI id:Nat):Int):=by simp only[qt,aq,hPP];omega
 simp only[ac ho2]at p2;simp only[aq,aO]at p1 p2;have p3:=p2 (au (RQ+1) (2*cG (RQ+1)-1)) g_;have c1:((2*cG (RQ+1)-1:Nat):Int)=2*(cG (RQ+1):Int)-1:=o_;have c2:((RQ+1:Nat):Int)=(RQ:Int)+1:=rfl;rw[c1,c2]at p1;rw[c2]at q4;clear p2 hL1 hL2 hpw ho1 ho2;generalize au (RQ+1) (2*cG (RQ+1)-1)++au RM (bI id)=RES at *;generalize au (RQ+1) (2*cG (RQ+1)-1)=RE1 at *;generalize cG (RQ+1)=LN at *;generalize bI id=pl at *;generalize b8 id=es at *;rw[aU aiq ahK rfl];simp(maxSteps:=300000) (disch:=omega)[↓ac,↓aa,hr,hg,-ku,-qZ,q1,q2,q3,q4,p1,p3]
abbrev sm:=@List.flatten_nil
abbrev eG:=@List.any_cons
abbrev mH:=@Bool.false_or
def abn {a b:C_}:[[D.lst (ak a)],[D.lst (ak b)]]=Bu [a,b]:=rfl
def akf {a b c d:C_}:[[D.lst (ak a)],[D.lst (ak b)],[D.lst (ak c)],[D.lst (ak d)]]=Bu [a,b,c,d]:=rfl
def zU {id e:Nat}(hid:jf id)(he:e<bh id):1<=(jS id e).length∧(jS id e).length<=20:=by
 obtain⟨h1,h2,h3⟩:=Ma id (fK hid);have hm:bh id<=300:=by have:=lj id (fK hid);omega
 have hrk:=Zh hid he;have hdv:nth (dy id) e / 2 ^ bI id<=nth (dy id) e:=kC _ _;unfold jS;rw[al,dq,dq];generalize nth (dy id) e / 2 ^ bI id=RQ at *;have hL2:=tN (n:=RQ+1) o_;have hL9:cG (RQ+1)<=9:=by
  rcases bt 9 (cG (RQ+1)) with h|h
  .have:2 ^ 9<=2 ^ (cG (RQ+1)-1):=aw o_ o_;omega
  .exact h
 have hL0:1<=cG (RQ+1):=by unfold cG;rw[aa o_];omega
 omega
def abd (b:C_)(hb:b.length<=900000000)(x:AV)(hx:x=.d (.lst (ak b))∨x=.nl∧b=[])(d:Int)(hd:-60<=d∧d<=60):bq prog Dx [x,A_ d]=some (.tup [.own true 1 (ak (b++jS 12 (d+60).toNat)),A_ 0]):=by
 obtain⟨E,rfl⟩:∃E:Nat,d=(E:Int)-60:=⟨(d+60).toNat,o_⟩
 have hok:jf 12:=o_;have he:((E:Int)-60+60).toNat<bh 12:=by show _<121;omega
 have hE:=WG 12 hok [(E:Int)-60] ⟨rfl,λv hv=>by
  rw[List.mem_singleton]at hv;show -60<=v∧v < -60+((121:Nat):Int);omega⟩
 have e1:kK (da 12) (cu 12) [(E:Int)-60] 0=((E:Int)-60+60).toNat:=by
  show 0*121+((E:Int)-60-(-60)).toNat=_;omega
 have e2:((E:Int)-60+60).toNat=E:=o_;rw[e2]at e1 he⊢;rw[e1]at hE;have hG:=Vc 12 hok;have hC:=aa2 12 E hok he;have hcl:=zU hok he;have hcat:=ae4 [b,jS 12 E] s_ g_;have c12:((12:Nat):Int)=12:=rfl;have i1:aF [(E:Int)-60]=[[.int .i64 ((E:Int)-60)]]:=rfl;simp only[Xk,mS,c12,i1,dj,sm,be]at hE hG hC hcat;rw[<-abn]at hcat;generalize jS 12 E=CB at *;generalize b8 12=es at *;generalize dy 12=rs at *;generalize bI 12=pl at *;rw[aU aiu aiz rfl];rcases hx with rfl|⟨rfl,rfl⟩
 .simp(maxSteps:=300000) (disch:=omega)[↓ac,↓aa,hE,hG,hC,hcat]
 .have n0:ak []=[]:=rfl;rw[n0]at hcat;simp(maxSteps:=300000) (disch:=omega)[↓ac,↓aa,hE,hG,hC,hcat]
def Un (F:AV)(P:Int->Bool)(l:G_)(hl:l.length<=1000000000)(h:am)(N:Nat)(hF:firm (share F)=F)(hc:∀v∈l,b7 (Dn prog) F [A_ v] ⟨h,N⟩=some (B_ (P v),⟨h,N⟩)):∀(r:G_) (i:Nat),l.drop i=r->
  (r.any P=true∧∃k:Nat,(Dn prog).code (.loop fY) ⟨[(0,.d (.lst (aF l))),(1,F),(7,A_ l.length),(8,A_ i)],⟨h,N⟩⟩=some (.ret,⟨[(4,A_ k)],⟨h,N⟩⟩))∨
  (r.any P=false∧(Dn prog).code (.loop fY) ⟨[(0,.d (.lst (aF l))),(1,F),(7,A_ l.length),(8,A_ i)],⟨h,N⟩⟩=some (.exit 0,⟨[],⟨h,N⟩⟩)):=by
 intro r
 induction r with
 |nil =>
  intro i hd;have hi:=bQ hd;refine .inr ⟨rfl,?_⟩;rw[ah iZ];simp(maxSteps:=300000) (disch:=omega)[↓aa]
 |cons v r ih =>
  intro i hd;have hg:=zu hd;have hlt:=cm hd;have hv:=hc v (by rw[<-aT i l,hd];simp);have h5:=ih (i+1) (bE hd);have c1:((i+1:Nat):Int)=(i:Int)+1:=rfl;rw[c1]at h5
  cases hp:P v with
  |true =>
   rw[hp]at hv;refine .inl ⟨by rw[eG,hp];rfl,i,?_⟩;rw[ah iZ];simp(maxSteps:=300000) (disch:=omega)[↓ac,↓aa,hg,hF,hv]
  |false =>
   rw[hp]at hv;rw[eG,hp,mH];rcases h5 with ⟨e1,k,e2⟩|⟨e1,e2⟩
   .refine .inl ⟨e1,k,?_⟩;rw[ah iZ,<-e2];simp(maxSteps:=300000) (disch:=omega)[↓ac,↓aa,hg,hF,hv]
   .refine .inr ⟨e1,?_⟩;rw[ah iZ,<-e2];simp(maxSteps:=300000) (disch:=omega)[↓ac,↓aa,hg,hF,hv]
def yI (F:AV)(P:Int->Bool)(l:G_)(hl:l.length<=1000000000)(h:am)(N:Nat)(hF:firm (share F)=F)(hF2:firm F=F)(hc:∀v∈l,b7 (Dn prog) F [A_ v] ⟨h,N⟩=some (B_ (P v),⟨h,N⟩)) :
  (Dn prog).call mr [.d (.lst (aF l)),F] ⟨h,N⟩=some (B_ (l.any P),⟨h,N⟩):=by
 have h1:=Un F P l hl h N hF hc l 0 rfl;have c0:((0:Nat):Int)=0:=rfl;rw[c0]at h1;have h2:∃k:Int,(0<=k↔l.any P=true)∧(Dn prog).call wZ [.d (.lst (aF l)),F] ⟨h,N⟩=some (A_ k,⟨h,N⟩):=by
  rcases h1 with ⟨e1,k,e2⟩|⟨e1,e2⟩
  .refine⟨k,⟨λ_=>e1,λ_=>by omega⟩,?_⟩;rw[ba xa w8 rfl];simp(maxSteps:=300000) (disch:=omega)[e2]
  .refine⟨-1,⟨λh=>by omega,λh=>by rw[e1]at h;exact absurd h s_⟩,?_⟩;rw[ba xa w8 rfl];simp(maxSteps:=300000) (disch:=omega)[e2]
 obtain⟨k,e1,e2⟩:=h2;rw[ba Fh Fd rfl]
 cases hp:l.any P with
 |true =>
  have:=e1.2 hp;simp(maxSteps:=300000) (disch:=omega)[↓ac,hF2,e2]
 |false =>
  have:¬0<=k:=λh=>by rw[e1.1 h]at hp;exact absurd hp (by simp)
  simp(maxSteps:=300000) (disch:=omega)[↓aa,hF2,e2]
def iB (id:Nat):Nat:=[0,1,1,2,2,4,4,7,7,12,12,8191,0].getD id 0
abbrev asH:D_:=[A_ 0,A_ 1,A_ 1,A_ 2,A_ 2,A_ 4,A_ 4,A_ 7,A_ 7,A_ 12,A_ 12,A_ 8191,A_ 0]
def aco:bq prog W5 []=some (.agg asH):=zR 100 (by kernel_rfl)
def atm {id:Nat}(h:id<=12):ixV 13 1 false (.agg asH) (A_ id)=some (A_ (iB id)):=by
 obtain rfl|rfl|rfl|rfl|rfl|rfl|rfl|rfl|rfl|rfl|rfl|rfl|rfl:id=0∨id=1∨id=2∨id=3∨id=4∨id=5∨id=6∨id=7∨id=8∨id=9∨id=10∨id=11∨id=12:=o_
 all_goals rfl
def bB (id:Nat):Nat:=if id<5 then 4 else 2
def aqI (id:Nat):bq prog VU [A_ id]=some (A_ (bB id)):=by
 rw[aU akU akE rfl];unfold bB;by_cases h:id<5
 .simp(disch:=omega)[↓ac]
 .simp(disch:=omega)[↓aa]
def J8 (m:Nat)(v:Int):Bool:=decide ((m:Int)<v∨v < -(m:Int))
def aws (m:Nat)(hm:m<=100000)(v:Int)(N:Nat):(Dn prog).call Fl [A_ v,.ptr 0 0] ⟨[(0,.cells [A_ m])],N⟩=some (B_ (J8 m v),⟨[(0,.cells [A_ m])],N⟩):=by
 rw[ba acP abK rfl];unfold J8;by_cases h1:(m:Int)<v
 .simp(maxSteps:=300000) (disch:=omega)[↓ac,h1]
 .by_cases h2:v < -(m:Int)
  .simp(maxSteps:=300000) (disch:=omega)[↓ac,↓aa,h1,h2]
  .simp(maxSteps:=300000) (disch:=omega)[↓ac,↓aa,h1,h2]
def Pv (id:Nat)(hid:1<=id∧id<=11)(vs:G_)(hv:vs.length=bB id):bq prog SL [A_ id,.d (.lst (aF vs))]=some (.tup [B_ ((!(vs.any (J8 (iB id))))),A_ 0]):=by
 have hm:iB id<=100000:=by
  obtain rfl|rfl|rfl|rfl|rfl|rfl|rfl|rfl|rfl|rfl|rfl:id=1∨id=2∨id=3∨id=4∨id=5∨id=6∨id=7∨id=8∨id=9∨id=10∨id=11:=o_
  all_goals decide
 have hd4:bB id<=4:=by unfold bB;split<;>omega
 have h1:=yI (.fn Fl [] [.ptr 0 0]) (J8 (iB id)) vs o_ [(0,.cells [A_ (iB id)])] 1 rfl rfl λv _=>by
  simp(maxSteps:=300000) (disch:=omega)[aws (iB id) hm v 1]
 have h2:=atm (id:=id) o_;have h3:=aqI id;rw[aU ahE aic rfl];simp(maxSteps:=300000) (disch:=omega)[↓ac,↓aa,h3,aco,h2,h1]
def jE (id:Nat)(v:Int):Int:=if id=11∧16<=v.natAbs then 16 else v.natAbs
def oO (v:Int):C_:=if v=0 then [] else if v<0 then [1] else [0]
def vp (id:Nat)(v:Int):C_:=if id=11∧16<=v.natAbs then List.replicate (cG v.natAbs-5) 1++(0::au (v.natAbs % 2 ^ (cG v.natAbs-1)) (cG v.natAbs-1)) else []
def AM (id:Nat)(vs:G_):C_:=if j8 id then jS id (kK (da id) (cu id) vs 0)
 else jS id (kK (da id) (cu id) (vs.map (jE id)) 0)++(vs.flatMap oO++vs.flatMap (vp id))
def aoM (v:Int)(h:-100000<=v∧v<=100000):bq prog SR [A_ v]=some (A_ v.natAbs):=by
 rw[aU ahk aht rfl];by_cases h0:v<0
 .have:((v.natAbs:Nat):Int)=-v:=o_;rw[this];simp(disch:=omega)[↓ac]
 .have:((v.natAbs:Nat):Int)=v:=o_;rw[this];simp(disch:=omega)[↓aa]
def aqw:∀m∈List.range 9,bq prog KI [.d (.lst [[.int .u8 1]]),A_ m]=some (.own true 1 (ak (List.replicate m 1))):=Gv 100 (List.range 9) (by kernel_rfl)
def am9 {m:Nat}{h:am}{xs ys:E_}(hl:xs.length+ys.length<=1000000000):∃v,et m h (aD m xs) ys=some (v,h)∧firm v=aD m (xs++ys):=by
 cases xs with
 |nil =>
  cases ys with
  |nil=>exact⟨.nl,rfl,rfl⟩
  |cons y r =>
   simp only[ar,bD]at hl;exact⟨.own true m (y::r),by simp(disch:=omega)[aD,↓ac],rfl⟩
 |cons x r =>
  exact⟨.own false m (x::r++ys),by
   grind [aaQ,aiB,Zv,ajr,ajc,aW],rfl⟩
def auA {v:Int}(h:-100000<=v∧v<0):wr .u64 v=v+18446744073709551616:=by
 grind [wr,nu,IntKind.wrap,IntKind.bits,IntKind.signed]
def agK (id:Nat)(hid:1<=id∧id<=11)(pl ents ranks:D)(x0:AV)(vs:G_)(hl:vs.length<=4)(N:Nat):∀(r:G_) (i:Nat) (sz:G_) (sg es:C_),vs.drop i=r->(∀v∈r,v.natAbs<=8191)->sz.length<=100+i->sg.length<=100+i->es.length<=100+100*i->
  (Dn prog).code (.loop ym) ⟨[(0,x0),(4,.ptr 0 0),(15,aD 1 (aF sz)),(16,aD 1 (ak sg)),(17,aD 1 (ak es)),(69,.d (.lst (aF vs))),(70,A_ vs.length),(71,A_ i)],⟨[(0,.cells [A_ id,.d pl,.d ents,.d ranks])],N⟩⟩ =
  some (.exit 0,⟨[(0,x0),(4,.ptr 0 0),(15,aD 1 (aF (sz++r.map (jE id)))),(16,aD 1 (ak (sg++r.flatMap oO))),(17,aD 1 (ak (es++r.flatMap (vp id))))],⟨[(0,.cells [A_ id,.d pl,.d ents,.d ranks])],N⟩⟩):=by
 intro r
 induction r with
 |nil =>
  intro i sz sg es hd hr h1 h2 h3;have hi:=bQ hd;rw[ah Ff];simp(disch:=omega)[↓aa]
 |cons v r ih =>
  intro i sz sg es hd hr h1 h2 h3;have hg:=zu hd;have hlt:=cm hd;have hv:=hr v (.head _);have hs:=aoM v o_;have c1:((i+1:Nat):Int)=(i:Int)+1:=rfl;have hlg:=cP (l:=sg);have hle:=cP (l:=es);have hsz:=gQ (l:=sz);obtain⟨n,hn⟩:∃n,n=v.natAbs:=⟨_,rfl⟩
  rw[<-hn]at hs hv;have hvs:WV .u64 (A_ v)=some (.int .u64 (wr .u64 v)):=rfl;have hpos:0<v->fg .shr (.d (.int .u64 v)) (.d (.int .u64 63))=some (.int .u64 0):=λh=>by
   rw[ku o_];have:min ((63:Int)).toNat IntKind.u64.bits=63:=rfl
   grind
  have hneg:v<0->fg .shr (.d (.int .u64 (wr .u64 v))) (.d (.int .u64 63))=some (.int .u64 1):=λh=>by
   rw[auA o_,ku o_];have:min ((63:Int)).toNat IntKind.u64.bits=63:=rfl
   grind
  have hb1:ak sg++[[D.int .u8 1]]=ak (sg++[1]):=by simp[ak]
  have hb0:ak sg++[[D.int .u8 0]]=ak (sg++[0]):=by simp[ak]
  by_cases he:id=11∧16<=v.natAbs
  .obtain⟨h11,h16⟩:=he;rw[<-hn]at h16;have hL1:=Ge (n:=n);have hL2:=tN (n:=n) o_;have hL13:cG n<=13:=by
    rcases bt 13 (cG n) with h|h
    .have:2 ^ 13<=2 ^ (cG n-1):=aw o_ o_;omega
    .exact h
   have hL5:5<=cG n:=by
    rcases bt (cG n) 5 with h|h
    .have:2 ^ cG n<=2 ^ 4:=aw o_ o_;omega
    .exact h
   obtain⟨m,hm⟩:∃m,cG n=m+5:=⟨cG n-5,o_⟩
   have e1:jE id v=16:=by grind [jE]
   have e2:vp id v=List.replicate m 1++(0::au (n % 2 ^ (m+4)) (m+4)):=by
    grind [vp]
   have hl2:=agw n o_;have hrp:=aqw m (dL.2 o_);have hlr:(ak (List.replicate m 1)).length=m:=u_;obtain⟨w,hw1,hw2⟩:=am9 (m:=1) (h:=[(0,.cells [A_ id,.d pl,.d ents,.d ranks])]) (xs:=ak es) (ys:=ak (List.replicate m 1)) o_;have hbe:ak es++ak (List.replicate m 1)=ak (es++List.replicate m 1):=ads;rw[hbe]at hw2;have hlw:(ak (es++List.replicate m 1)).length=es.length+m:=u_;have hbw:ak (es++List.replicate m 1)++[[D.int .u8 0]]=ak (es++List.replicate m 1++[0]):=by simp[ak]
   have hp4:2 ^ (m+4)<=2 ^ 12:=aw o_ o_;have hmod:n % 2 ^ (m+4)<2 ^ (m+4):=dO _ (bM _);have q2:=RX (m:=m+4) o_;have q3:=av6 (n:=n) (k:=m+4) rfl o_ o_;have p1:=mp (es++List.replicate m 1++[0]) ((n % 2 ^ (m+4):Nat):Int) ((m+4:Nat):Int) d_ o_ _ (.inl rfl);rw[ac d_]at p1;simp only[aq]at p1;have c4:((m+4:Nat):Int)=(m:Int)+4:=rfl;have c5:((m+5:Nat):Int)=(m:Int)+5:=rfl;rw[hm,c5]at hl2;rw[c4]at p1 q2;have h5:=λs2 (h:s2.length<=101+i)=>ih (i+1) (sz++[16]) s2 (es++List.replicate m 1++[0]++au (n % 2 ^ (m+4)) (m+4)) (bE hd) (λq hq=>hr q (.tail _ hq)) d_ o_ (by simp;omega)
   generalize n % 2 ^ (m+4)=RM at *;generalize 2 ^ (m+4)=PP at *;have eo:aD 1 (aF (sz++[16]))=.own false 1 (aF (sz++[16])):=kN (by simp[aF]);have eo3:aD 1 (ak (es++List.replicate m 1++[0]++au RM (m+4)))=.own false 1 (ak (es++List.replicate m 1++[0]++au RM (m+4))):=kN (by simp[ak]);have eL:es++List.replicate m 1++[0]++au RM (m+4)++r.flatMap (vp id)=es++(List.replicate m 1++(0::au RM (m+4))++r.flatMap (vp id)):=s_;simp only[eo3,eL]at h5;generalize es++List.replicate m 1++[0]++au RM (m+4)=ES at *;generalize es++List.replicate m 1++[0]=E0 at *;generalize es++List.replicate m 1=EM at *;simp only[c1,eo,ay,bY]at h5;rw[ah Ff,b9,aG,aG,e1,e2];have v0:v≠0:=o_;by_cases hvn:v<0
   .have e3:oO v=[1]:=by grind [oO]
    have eo2:aD 1 (ak (sg++[1]))=.own false 1 (ak (sg++[1])):=kN (by simp[ak]);have h6:=h5 (sg++[1]) d_;simp only[eo2,ay,bY]at h6;rw[e3,bY];simp only[ay,aR]at h6⊢;rw[<-h6];simp(disch:=omega)[↓ac,↓aa,hg,hs,-ku,-qZ,hneg hvn,hb1,hl2,hrp,hw1,hw2,hbw,q2,q3,p1]
   .have hvp:0<v:=o_;have e3:oO v=[0]:=by grind [oO]
    have eo2:aD 1 (ak (sg++[0]))=.own false 1 (ak (sg++[0])):=kN (by simp[ak]);have h6:=h5 (sg++[0]) d_;simp only[eo2,ay,bY]at h6;rw[e3,bY];simp only[ay,aR]at h6⊢;rw[<-h6];simp(disch:=omega)[↓ac,↓aa,hg,hs,-ku,-qZ,hpos hvp,hb0,hl2,hrp,hw1,hw2,hbw,q2,q3,p1]
  .have e1:jE id v=n:=by grind [jE]
   have e2:vp id v=[]:=by grind [vp]
   have h5:=λs2 (h:s2.length<=101+i)=>ih (i+1) (sz++[(n:Int)]) s2 es (bE hd) (λq hq=>hr q (.tail _ hq)) d_ o_ (by omega)
   have eo:aD 1 (aF (sz++[(n:Int)]))=.own false 1 (aF (sz++[(n:Int)])):=kN (by simp[aF]);simp only[c1,eo,ay,bY]at h5;rw[ah Ff,b9,aG,aG,e1,e2,aO];have hen:¬(id=11∧16<=n):=o_;by_cases v0:v=0
   .have e3:oO v=[]:=by grind [oO]
    rw[e3,aO,<-h5 sg o_];by_cases h11:id=11
    .simp(disch:=omega)[↓ac,↓aa,hg,hs]
    .simp(disch:=omega)[↓ac,↓aa,hg,hs]
   .by_cases hvn:v<0
    .have e3:oO v=[1]:=by grind [oO]
     have eo2:aD 1 (ak (sg++[1]))=.own false 1 (ak (sg++[1])):=kN (by simp[ak]);have h6:=h5 (sg++[1]) d_;simp only[eo2,ay,bY]at h6;rw[e3,bY,<-h6];by_cases h11:id=11
     .simp(disch:=omega)[↓ac,↓aa,hg,hs,-ku,hneg hvn,hb1]
     .simp(disch:=omega)[↓ac,↓aa,hg,hs,-ku,hneg hvn,hb1]
    .have hvp:0<v:=o_;have e3:oO v=[0]:=by grind [oO]
     have eo2:aD 1 (ak (sg++[0]))=.own false 1 (ak (sg++[0])):=kN (by simp[ak]);have h6:=h5 (sg++[0]) d_;simp only[eo2,ay,bY]at h6;rw[e3,bY,<-h6];by_cases h11:id=11
     .simp(disch:=omega)[↓ac,↓aa,hg,hs,-ku,hpos hvp,hb0]
     .simp(disch:=omega)[↓ac,↓aa,hg,hs,-ku,hpos hvp,hb0]
theorem AL:∀id∈ids.take 11,(j8 id=true->da id=-(iB id:Int)∧cu id=2*iB id+1)∧(j8 id=false->da id=0∧(id≠11->cu id=iB id+1)∧(id=11->cu id=17))∧dX id=bB id∧iB id<=8191:=e_
theorem Rl {id:Nat}(h:1<=id∧id<=11):id∈ids.take 11:=by
 show id∈[1,2,3,4,5,6,7,8,9,10,11];simp only[aB,cU,fC];omega
abbrev LQ (id:Nat)(vs:G_):Prop:=vs.length=bB id∧∀v∈vs,v.natAbs<=iB id
def auj {id:Nat}{vs:G_}(h:∀v∈vs,v.natAbs<=iB id):vs.any (J8 (iB id))=false:=by
 grind [J8]
def Nb {id:Nat}(hid:1<=id∧id<=11){vs:G_}(h:LQ id vs):(j8 id=true->Qf id vs)∧(j8 id=false->Qf id (vs.map (jE id))):=by
 grind [AL,Rl,jE]
def afk {vs:G_}:(vs.flatMap oO).length<=vs.length:=by
 induction vs<;>grind [oO]
def as3 {id:Nat}{v:Int}(h:v.natAbs<=8191):(vp id v).length<=30:=by
 unfold vp;split
 .have hL2:v.natAbs≠0->2 ^ (cG v.natAbs-1)<=v.natAbs:=tN;have hL13:cG v.natAbs<=13:=by
   rcases bt 13 (cG v.natAbs) with h|h
   .have:2 ^ 13<=2 ^ (cG v.natAbs-1):=aw o_ o_;omega
   .exact h
  grind [dq]
 .simp
def Ul {id:Nat}:∀{vs:G_},(∀v∈vs,v.natAbs<=8191)->(vs.flatMap (vp id)).length<=30*vs.length
 |[],_=>by simp
 |v::r,h=>by
  have h1:=as3 (id:=id) (h v (.head _));have h2:=Ul (id:=id) (vs:=r) λq hq=>h q (.tail _ hq)
  grind
def ari (b:C_)(hb:b.length<=900000000)(x:AV)(hx:x=.d (.lst (ak b))∨x=.nl∧b=[])(id:Nat)(hid:1<=id∧id<=11)(vs:G_)(hv:LQ id vs):bq prog F6 [x,mS id,.d (.lst (aF vs))]=some (.tup [.own true 1 (ak (b++AM id vs)),A_ 0]):=by
 have hok:jf id:=o_;have hF:=Pv id hid vs hv.1;rw[auj hv.2]at hF;have hS:=OZ id (Rl hid);obtain⟨m1,m2,m3,m4⟩:=AL id (Rl hid);obtain⟨f1,f2⟩:=Nb hid hv;have hE:=WG id hok;have hC:=λe he=>aa2 id e hok he
 have hd4:bB id<=4:=by grind [bB]
 have hvl:=hv.1;have hv8:∀v∈vs,v.natAbs<=8191:=λv h=>aL (hv.2 v h) m4
 simp only[mS]at hC⊢;have hmany:bh id=cu id ^ dX id:=rfl;unfold AM;by_cases hs:j8 id=true
 .rw[hs]at hS;have hin:=f1 hs;have hE:=hE vs hin;have hlt:=Gk (n:=0) (j:=0) hin.2 s_;rw[br,hin.1,<-hmany]at hlt;have hC:=hC _ hlt;have hcl:=zU hok hlt;have hcat:=ae4 [b,jS id (kK (da id) (cu id) vs 0)] s_ d_;simp only[dj,sm,be]at hcat;rw[<-abn]at hcat;rw[ac hs];generalize jS id (kK (da id) (cu id) vs 0)=CB at *;generalize kK (da id) (cu id) vs 0=EN at *;generalize b8 id=es at *;generalize dy id=rs at *;generalize bI id=pl at *;rw[aU XI VA rfl];rcases hx with rfl|⟨rfl,rfl⟩
  .simp(disch:=omega)[↓ac,hF,hS,hE,hC,hcat]
  .have n0:ak []=[]:=rfl;rw[n0]at hcat;simp(disch:=omega)[↓ac,hF,hS,hE,hC,hcat]
 .have hs2:j8 id=false:=u_;rw[hs2]at hS;have hin:=f2 hs2;have hE:=hE _ hin;have hlt:=Gk (n:=0) (j:=0) hin.2 s_;rw[br,hin.1,<-hmany]at hlt;have hC:=hC _ hlt;have hcl:=zU hok hlt;have hsl:=afk (vs:=vs);have hel:=Ul (id:=id) hv8;have hcat:=ae4 [b,jS id (kK (da id) (cu id) (vs.map (jE id)) 0),vs.flatMap oO,vs.flatMap (vp id)] s_ d_;simp only[dj,sm,be]at hcat;rw[<-akf]at hcat;have hl0:=λx0=>agK id hid (.int .i64 (bI id)) (.lst (cN (b8 id))) (.lst (cN (dy id))) x0 vs o_ 1 vs 0 [] [] [] rfl hv8 s_ s_ (by simp)
  have c0:((0:Nat):Int)=0:=rfl;have n0:ak []=[]:=rfl;have n1:aF []=[]:=rfl;have hne:aF (vs.map (jE id))≠[]:=by
   grind [aF,List.length_nil,bB]
  simp only[n0,n1,pD,aO,c0,kN hne]at hl0;rw[aa hs];generalize jS id (kK (da id) (cu id) (vs.map (jE id)) 0)=CB at *;generalize kK (da id) (cu id) (vs.map (jE id)) 0=EN at *;generalize b8 id=es at *;rw[aU XI VA rfl];rcases hx with rfl|⟨rfl,rfl⟩
  .simp(disch:=omega)[↓ac,hF,hS,hl0,hE,hC,hcat]
  .rw[n0]at hcat;simp(disch:=omega)[↓ac,hF,hS,hl0,hE,hC,hcat]
def qD (k n w z:Int):C_:=if k=0 then [] else if k=13 then (if z<0 then au n.toNat 9 else jS 12 (n-z+60).toNat) else jS 12 (n-w+60).toNat
def pR:G_->G_->Int->Int->C_
 |k::r,n::t,w,z=>qD k n w z++pR r t (jC k n w z).1 (jC k n w z).2
 |_,_,_,_=>[]
def pw:H_->L_->Int->Int->C_
 |l::r,t::s,w,z=>pR (aK l) t w z++(match dF (aK l) t w z with
  |some (w,z)=>pw r s w z
  |none=>[])
 |_,_,_,_=>[]
def abj {k n w z:Int}(h:k≠0->kW k n w z):(qD k n w z).length<=20:=by
 unfold qD;by_cases h0:k=0
 .simp_all
 .have hok:jf 12:=o_;have hc:=λe (he:e<121)=>(zU (id:=12) (e:=e) hok he).2
  by_cases h13:k=13
  .by_cases hz:z<0
   .simp_all
   grind
  grind
structure LP (F:Obj->AV->Int->Int->am)(ss:L_)(g:Int)(L N:Nat):Prop where
 gl:∀q v w z,get (F q v w z) L=some q
 pl:∀q v w z q',put (F q v w z) L q'=F q' v w z
 g0:∀q v w z,get (F q v w z) 0=some (.cells [v])
 p0:∀q v w z v',put (F q v w z) 0 (.cells [v'])=F q v' w z
 g1:∀q v w z,get (F q v w z) 1=some (.cells [.d (.lst (c7 ss))])
 g2:∀q v w z,get (F q v w z) 2=some (.cells [A_ w,A_ z])
 p2:∀q v w z w' z',put (F q v w z) 2 (.cells [A_ w',A_ z'])=F q v w' z'
 g3:∀q v w z,get (F q v w z) 3=some (.cells [.ptr 2 0])
 gN:∀q v w z,get (F q v w z) N=some (.cells [A_ g])
abbrev aCD (gs:H_)(g N:Nat):aV:=[(4,.ptr 0 0),(7,.ptr 1 0),(11,.ptr 3 0),(12,.ptr N 0),(32,.d (.lst (bF gs))),(33,A_ gs.length),(34,A_ g),(40,.fn iK [] [.ptr (N+1) 0])]
abbrev adc (gs:H_)(g N:Nat):Obj:=.loop (aCD gs g N) [41,42] wa wE false none
def ayA {F:Obj->AV->Int->Int->am}{L:Nat}(ss:L_)(hss:ss.length<=1000)(gs:H_)(hgs:gs.length<=1000)(g N:Nat)(H:LP F ss g L N)(t:G_)(ht:t.length<=100000)(hg:(c7 ss)[g]?=some [.lst (aF t)])(a:Nat)(k:Int)(b:C_)(hb:b.length<=800000000)(w z:Int)(M:Nat)(n:Int)(r:G_)(hd:t.drop a=n::r)(h0:k=0->n=0)(h1:k≠0->kW k n w z)(hk:0<=k∧k<=13)(hw:tj w)(hz:tj z) :
  b7 (Dn prog) (.yield L) [A_ (a:Int),A_ k] ⟨F (adc gs g N) (.own false 1 (ak b)) w z,M⟩=some (B_ true,⟨F (adc gs g N) (.own false 1 (ak (b++qD k n w z))) (jC k n w z).1 (jC k n w z).2,M⟩):=by
 have ha:=cm hd;have hn:=zu hd;have gl:g<ss.length:=by
  obtain⟨h,_⟩:=aH.1 hg;simpa using h
 have T:=λq v=>LR (hp:=λw z=>F q v w z) (A:=2) ⟨λs z=>H.g2 q v s z,λs z s' z'=>H.p2 q v s z s' z'⟩ k n w z M
 by_cases k0:k=0
 .have:=h0 k0;subst k0 this;simp(disch:=omega)[wU,wg,↓ac,↓aa,hg,hn,H.gl,H.pl,H.g1,H.gN,jC,qD];rfl
 .have hT:=h1 k0;have hn5:=PN hT;have T:=λq v=>T q v o_ o_ (by omega)
  simp only[ac hT]at T;have e:(jC k n w z)=if k=13 then (w,n) else (n,z):=by rw[jC,aa k0]
  have es:qD k n w z=if k=13 then (if z<0 then au n.toNat 9 else jS 12 (n-z+60).toNat) else jS 12 (n-w+60).toNat:=by grind [qD]
  unfold kW at hT;by_cases k13:k=13
  .rw[ac k13]at hT;rw[e,ac k13,es,ac k13];simp only[ac k13]at T;subst k13;by_cases hz0:z<0
   .rw[ac hz0];have p1:=mp b n 9 o_ o_ _ (.inl rfl);have c9:(9:Int).toNat=9:=rfl;rw[ac d_,c9]at p1;simp(disch:=omega)[wU,wg,↓ac,↓aa,hg,hn,H.gl,H.pl,H.g0,H.p0,H.g1,H.g2,H.g3,H.gN,T,p1];rfl
   .have p1:=abd b o_ _ (.inl rfl) (n-z) o_;simp(disch:=omega)[wU,wg,↓ac,↓aa,hg,hn,H.gl,H.pl,H.g0,H.p0,H.g1,H.g2,H.g3,H.gN,T,p1];rfl
  .rw[aa k13]at hT;rw[e,aa k13,es,aa k13];have p1:=abd b o_ _ (.inl rfl) (n-w) o_;simp(disch:=omega)[wU,wg,↓aa,hg,hn,H.gl,H.pl,H.g0,H.p0,H.g1,H.g2,H.g3,H.gN,T,p1];rfl
abbrev FP (ss:L_)(g N:Nat)(l:Q_)(T:am)(q:Obj)(v:AV)(w z:Int):am :=
 (0,.cells [v])::(1,.cells [.d (.lst (c7 ss))])::(2,.cells [A_ w,A_ z])::(3,.cells [.ptr 2 0])::(N,.cells [A_ g])::(N+1,.cells [.d (.lst (gx l))])::(N+1+1,q)::T
def ay1 {ss:L_}{g N:Nat}{l:Q_}{T:am}(hN:4<=N):LP (FP ss g N l T) ss g (N+1+1) N:=by
 constructor<;>intro q m w z<;>(try intro q')<;>(try intro q'')<;>simp(disch:=omega)[↓aa]
abbrev avp (ss:L_)(g N:Nat)(l:Q_)(q:Obj)(s:C_×Int×Int)(T:am):am:=FP ss g N l T q (.own false 1 (ak s.1)) s.2.1 s.2.2
def aBb {ss:L_}{g N:Nat}{l:Q_}{q:Obj}(hN:4<=N):Tl (avp ss g N l q) (N+1+1+1):=by
 constructor
 .intro s K o h;simp(disch:=omega)[↓aa]
 .intro s K o o' h;simp(disch:=omega)[↓aa]
 .intro s K o h;simp(disch:=omega)[↓aa]
 .intro s K o h;simp(disch:=omega)[↓aa]
def anY {bks t:G_}{a:Nat}{k n:Int}{w z:Int}(hk:bks[a]?=some k)(hd:t.drop a=n::t.drop (a+1)):pR (bks.drop a) (t.drop a) w z=qD k n w z++pR (bks.drop (a+1)) (t.drop (a+1)) (jC k n w z).1 (jC k n w z).2:=by
 grind [List.drop_eq_getElem_cons,pR]
def ayD (ss:L_)(hss:ss.length<=1000)(gs:H_)(hgs:gs.length<=1000)(g N:Nat)(hN:4<=N)(t:G_)(ht:t.length<=100000)(hg:(c7 ss)[g]?=some [.lst (aF t)])(l:Q_)(hl:∀k∈aK l,0<=k∧k<=13)(hbl:(aK l).length<=100000)(fin:Int×Int)(TOT:C_) :
  Rnd (avp ss g N l (adc gs g N)) noH (N+1+1+1) (N+1+1) (aK l) (λa k s=>.inl (s.1++qD k (nth t a) s.2.1 s.2.2,jC k (nth t a) s.2.1 s.2.2)) (λa s=>(s.1.length<=700000000+20*a∧s.1++pR ((aK l).drop a) (t.drop a) s.2.1 s.2.2=TOT)∧tj s.2.1∧tj s.2.2∧dF ((aK l).drop a) (t.drop a) s.2.1 s.2.2=some fin):=by
 intro a k s K o M hk hi hK hM;obtain⟨⟨i0,i1⟩,i2,i3,i4⟩:=hi;obtain⟨n,d1,d2,d3,d4⟩:=abe hk (by rw[i4];simp);have hlt:a<(aK l).length:=d_;have hn:nth t a=n:=by
  grind [cm,pP]
 have hkm:=hl k d_;rw[i4]at d4;rw[anY hk d1]at i1;have hsl:=abj (k:=k) (n:=n) (w:=s.2.1) (z:=s.2.2) d3;have hgo:tj (jC k n s.2.1 s.2.2).1∧tj (jC k n s.2.1 s.2.2).2:=by
  grind [jC]
 refine .inl ⟨(s.1++qD k n s.2.1 s.2.2,jC k n s.2.1 s.2.2),u_,⟨⟨d_,u_⟩,hgo.1,hgo.2,d4.symm⟩,?_⟩;obtain⟨b,w,z⟩:=s;simp only at i0 i1 i2 i3;exact ayA ss hss gs hgs g N (ay1 (ss:=ss) (g:=g) (l:=l) (T:=[(K,o)]) hN) t ht hg a k b o_ w z M n _ d1 d2 d3 hkm i2 i3
abbrev aB1 (ss:L_)(v:AV)(w z:Int):am:=[(0,.cells [v]),(1,.cells [.d (.lst (c7 ss))]),(2,.cells [A_ w,A_ z]),(3,.cells [.ptr 2 0])]
def U1:∀{bks t:G_}{w z:Int},dF bks t w z≠none->(pR bks t w z).length<=20*bks.length
 |[],[],_,_,_=>by simp[pR]
 |[],_::_,_,_,h=>absurd rfl h
 |_::_,[],_,_,h=>absurd rfl h
 |k::r,n::t,w,z,h=>by
  have h1:=oN h;have h2:=abj h1.2.1;have h3:=U1 (by rw[h1.2.2]at h;exact h)
  grind [pR]
theorem rV {l:Q_}{lf:Int}(h:fitsS lf l)(h0:0<=lf):((aK l).length:Int)=lf:=by
 induction l generalizing lf<;>grind [fitsS,aK]
def afq (ss:L_)(hss:ss.length<=1000)(hss2:∀t∈ss,t.length<=100000)(gs:H_)(hgs:gs.length<=1000)(m:Int)(hm:0<=m∧m<=1000):∀(gr:H_) (sr:L_) (i N:Nat) (b:C_) (w z:Int),gs.drop i=gr->ss.drop i=sr->fk m gr->(∀l∈gr,l.length<=1000)->tj w->tj z->lX gr sr w z≠none->4<=N->b.length+20000*gr.length<=600000000->
  ∃M w' z',(Dn prog).code (.loop wl) ⟨[(4,.ptr 0 0),(7,.ptr 1 0),(11,.ptr 3 0),(32,.d (.lst (bF gs))),(33,A_ gs.length),(34,A_ i)],⟨aB1 ss (.own false 1 (ak b)) w z,N⟩⟩ =
  some (.exit 0,⟨[(4,.ptr 0 0)],⟨[(0,.cells [.own false 1 (ak (b++pw gr sr w z))]),(2,.cells [A_ w',A_ z'])],M⟩⟩):=by
 intro gr
 induction gr with
 |nil =>
  intro sr i N b w z hd hd2 hf hl hw hz hr hN hb;have hi:=bQ hd;refine⟨N,w,z,?_⟩;have e:b++pw [] sr w z=b:=by grind [pw]
  rw[ah K8,e];simp(disch:=omega)[↓ac,↓aa]
 |cons l r ih =>
  intro sr i N b w z hd hd2 hf hl hw hz hr hN hb;simp only[ar]at hb;have hg:=pb hd;have hlt:=cm hd;have hfl:=hf l (.head _);have hll:=hl l (.head _);have hbk:=rV hfl hm.1
  cases sr with
  |nil=>exact absurd rfl hr
  |cons t s =>
   have hgt:=Qm hd2;have htl:=hss2 t (by rw[<-aT i ss,hd2];simp);rw[lX]at hr
   cases hrow:dF (aK l) t w z with
   |none=>simp_all
   |some fin =>
    rw[hrow]at hr;have hrl:=U1 (bks:=aK l) (t:=t) (w:=w) (z:=z) u_;have hb1:=Ze (p:=N+1) (aBb (ss:=ss) (g:=i) (l:=l) (q:=adc gs i N) hN) alr l (ayD ss hss gs hgs i N hN t htl hgt l (Mi hfl) o_ fin (b++pR (aK l) t w z)) (λs=>by simp(disch:=omega)[↓aa]) hll (λq hq=>by have:=(s9 hfl hm.2 q hq).1;omega) (N+1+1+1) (b,w,z) (ai _) ⟨⟨d_,rfl⟩,hw,hz,u_⟩;rcases hb1 with ⟨⟨b2,w2,z2⟩,M,e1,⟨⟨e2,e2'⟩,e3,e4,e5⟩,e6,e7⟩|⟨z,_⟩
    .rw[cH (ai _)]at e5 e2';obtain⟨e8,e9⟩:=afJ e5;subst e8;have e10:b2=b++pR (aK l) t w z:=by
      grind [pR]
     subst e10;obtain⟨M2,w3,z3,f⟩:=ih s (i+1) M (b++pR (aK l) t w z) w2 z2 (bE hd) (bE hd2) (λq hq=>hf q (.tail _ hq)) (λq hq=>hl q (.tail _ hq)) e3 e4 hr o_ d_;refine⟨M2,w3,z3,?_⟩;have eT:b++pw (l::r) (t::s) w z=b++pR (aK l) t w z++pw r s w2 z2:=by grind [pw]
     rw[ah K8,eT,<-f];simp(disch:=omega)[↓ac,↓aa,hg,Jx,rd,e7]
    grind
def ao4 (b:C_)(hb:b.length<=500000000)(x:AV)(hx:x=.d (.lst (ak b))∨x=.nl∧b=[])(gain m:Int)(g:H_)(t:L_)(hgn:0<=gain∧gain<=255)(hl:g.length<=8)(hm:0<=m∧m<=40)(hf:fk m g)(hf2:∀l∈g,l.length<=1000)(ht:zi gain g t)(ht2:∀l∈t,l.length<=100000) :
  bq prog SV [x,A_ gain,.d (.lst (bF g)),.d (.lst (c7 t))]=some (.tup [.own true 1 (ak (b++pw g t gain (-1))),A_ 0]):=by
 have h1:=aia gain m g t hgn hl hm hf hf2 ht ht2;have hlen:=Jc ht;obtain⟨M,w,z,e⟩:=afq t o_ ht2 g o_ m o_ g t 0 4 b gain (-1) rfl rfl hf hf2 o_ o_ ht (ai _) o_;have c0:((0:Nat):Int)=0:=rfl;rw[c0]at e;have hp:=mp b 0 0 o_ o_ x hx;rw[ac k_]at hp;have t0:(0:Int).toNat=0:=rfl;rw[t0,au,be]at hp;rw[aU aij ahN rfl];rcases hx with rfl|⟨rfl,rfl⟩
 all_goals simp(disch:=omega)[↓ac,↓aa,h1,hp,e]
structure ca where
 len:Int
 order:Int
 down:Bool
 fine:Bool
 coefs:G_
abbrev AA_:=List ca
abbrev O_:=List (AA_)
abbrev ca.cells (f:ca):W_:=[.int .i64 f.len,.int .i64 f.order,.bool f.down,.bool f.fine,.lst (aF f.coefs)]
abbrev ca.av (f:ca):D_:=[A_ f.len,A_ f.order,B_ f.down,B_ f.fine,.d (.lst (aF f.coefs))]
def eh (l:AA_):E_:=l.map ca.cells
@[simp] def aqa {l:AA_}:(eh l).length=l.length:=by simp[eh]
def GC {l:AA_}{i:Nat}{s:ca}{r:AA_}(h:l.drop i=s::r):(eh l)[i]?=some [.int .i64 s.len,.int .i64 s.order,.bool s.down,.bool s.fine,.lst (aF s.coefs)]:=by
 grind [List.getElem?_cons_zero,eh]
def cX (t:O_):E_:=t.map λl=>[.lst (eh l)]
@[simp] theorem aaY {t:O_}:(cX t).length=t.length:=by simp[cX]
def I8 {g:O_}{i:Nat}{l:AA_}{r:O_}(h:g.drop i=l::r):(cX g)[i]?=some [.lst (eh l)]:=by
 grind [List.getElem?_cons_zero,cX]
def aeE (h:Int):∀(l:G_),l.any (λc=>decide (c < -h∨h<=c))=!decide (∀c∈l,-h<=c∧c<h)
 |[]=>by simp
 |c::r=>by
  grind
def dw (fine:Bool):Int:=if fine then 8 else 4
def yK (sh:Bool):Int:=if sh then 15 else 63
def u7 (sh:Bool):Int:=if sh then 7 else 12
def Ak (sh:Bool)(f:ca):Prop:=(0<=f.len∧f.len<=yK sh)∧(0<=f.order∧f.order<=u7 sh)∧(f.coefs.length:Int)=f.order∧(f.order=0->f.down=false)∧∀c∈f.coefs,-dw f.fine<=c∧c<dw f.fine
instance {sh:Bool}{f:ca}:Decidable (Ak sh f):=by unfold Ak;infer_instance
theorem Ib (b:Bool):bq prog CT [B_ b]=some (A_ (if b then 4 else 3)):=by
 rw[aU aai aak rfl]
 cases b<;>simp(disch:=omega)
def Dy (b:Bool):bq prog NW [B_ b]=some (A_ (if b then 1 else 0)):=by
 rw[aU acL acr rfl]
 cases b<;>simp(disch:=omega)
def lJ (sh:Bool):D_:=if sh then [A_ 1,A_ 4,A_ 3,A_ 1,A_ 7] else [A_ 2,A_ 6,A_ 5,A_ 3,A_ 12]
def aM.short (i:aM):Bool:=decide (i.seq=2)
def yb (i:aM):bq prog Ba [.agg i.cells]=some (.agg (lJ i.short)):=by
 rw[aU XE X6 rfl];unfold lJ aM.short;by_cases h:i.seq=2
 .simp(disch:=omega)[↓ac,h]
 .simp(disch:=omega)[↓aa,h]
def azk (m:Nat)(hm:m<=100000)(v:Int)(N:Nat):(Dn prog).call AJ [A_ v,.ptr 0 0] ⟨[(0,.cells [A_ m])],N⟩=some (B_ ((decide (v < -(m:Int)∨(m:Int)<=v))),⟨[(0,.cells [A_ m])],N⟩):=by
 rw[ba XD Yi rfl];by_cases h1:v < -(m:Int)
 .simp(disch:=omega)[↓ac,h1]
 .by_cases h2:(m:Int)<=v
  .simp(disch:=omega)[↓ac,↓aa,h1,h2]
  .simp(disch:=omega)[↓ac,↓aa,h1,h2]
def Jt (l:G_)(hl:l.length<=1000000)(s:Nat)(hs:1<=s∧s<=10):bq prog EA [.d (.lst (aF l)),A_ s]=some (B_ ((decide (∀c∈l,-((2 ^ (s-1):Nat):Int)<=c∧c<((2 ^ (s-1):Nat):Int))))):=by
 have hp:2 ^ (s-1)<=2 ^ 10:=aw o_ o_;have q2:=RX (m:=s-1) o_;have c1:((s-1:Nat):Int)=(s:Int)-1:=o_;rw[c1]at q2;generalize 2 ^ (s-1)=P at *;have h1:=yI (.fn AJ [] [.ptr 0 0]) (λc=>decide (c < -(P:Int)∨(P:Int)<=c)) l o_ [(0,.cells [A_ P])] 1 rfl rfl λv _=>by
  have:=azk P o_ v 1
  simp_all
 rw[aeE]at h1;rw[aU acj acD rfl];simp(disch:=omega)[-qZ,q2,h1]
def abV (i:aM)(f:ca)(h:Ak i.short f):bq prog IP [.agg i.cells,.agg f.av]=some (B_ true):=by
 obtain⟨⟨l1,l2⟩,⟨o1,o2⟩,c1,d1,c2⟩:=h;have hs:=yb i;have hw:=Ib f.fine;have hof:u7 i.short<=12:=by grind [u7]
 have hft:=Jt f.coefs o_ (if f.fine then 4 else 3) d_;have hh:((2 ^ ((if f.fine then 4 else 3)-1):Nat):Int)=dw f.fine:=by grind [dw]
 rw[hh,decide_eq_true c2]at hft;have hc:(((if f.fine=true then 4 else 3:Nat)):Int)=if f.fine=true then 4 else 3:=d_
 rw[hc]at hft;have hl:=gQ (l:=f.coefs);generalize hW:(if f.fine=true then (4:Int) else 3)=W at *;simp only[aM.cells]at hs;have hdn:f.order > 0∨f.order=0∧f.down=false:=by
  grind
 rw[aU Ws XL rfl];unfold yK at l2;unfold u7 at o2
 cases hsh:i.short with
 |true =>
  rw[hsh]at l2 o2 hs;simp only[lJ,bc]at l2 o2 hs;rcases hdn with hdn|⟨h0,hdn⟩
  .simp(disch:=omega)[↓ac,↓aa,hs,hw,hft]
  .simp(disch:=omega)[↓ac,↓aa,hs,hw,hft,hdn]
 |false =>
  rw[hsh]at l2 o2 hs;simp only[lJ]at l2 o2 hs;rcases hdn with hdn|⟨h0,hdn⟩
  .simp(disch:=omega)[↓ac,↓aa,hs,hw,hft]
  .simp(disch:=omega)[↓ac,↓aa,hs,hw,hft,hdn]
def Y2 (F:AV)(P:ca->Bool)(l:AA_)(hl:l.length<=1000000000)(h:am)(N0:Nat)(hF:firm (share F)=F)(hc:∀f∈l,∀N,N0<=N->b7 (Dn prog) F [.agg f.av] ⟨h,N⟩=some (B_ (P f),⟨h,N+1⟩)):∀(r:AA_) (i N:Nat),l.drop i=r->N0<=N->
  (r.any P=true∧∃k M:Nat,N<=M∧(Dn prog).code (.loop fp) ⟨[(0,.d (.lst (eh l))),(1,F),(7,A_ l.length),(8,A_ i)],⟨h,N⟩⟩=some (.ret,⟨[(4,A_ k)],⟨h,M⟩⟩))∨
  (r.any P=false∧∃M,N<=M∧(Dn prog).code (.loop fp) ⟨[(0,.d (.lst (eh l))),(1,F),(7,A_ l.length),(8,A_ i)],⟨h,N⟩⟩=some (.exit 0,⟨[],⟨h,M⟩⟩)):=by
 intro r
 induction r with
 |nil =>
  intro i N hd hN;have hi:=bQ hd;refine .inr ⟨rfl,N,ai _,?_⟩;rw[ah gK];simp(disch:=omega)[↓aa]
 |cons v r ih =>
  intro i N hd hN;have hg:=GC hd;have hlt:=cm hd;have hv:=hc v (by rw[<-aT i l,hd];simp) N hN;have h5:=ih (i+1) (N+1) (bE hd) (by omega)
  cases hp:P v with
  |true =>
   rw[hp]at hv;refine .inl ⟨u_,i,N+1,o_,?_⟩;rw[ah gK];simp(disch:=omega)[↓ac,hg,hF,hv]
  |false =>
   rw[hp]at hv;rw[eG,hp,mH];rcases h5 with ⟨e1,k,M,e3,e2⟩|⟨e1,M,e3,e2⟩
   .refine .inl ⟨e1,k,M,o_,?_⟩;rw[ah gK,<-e2];simp(disch:=omega)[↓ac,hg,hF,hv]
   .refine .inr ⟨e1,M,o_,?_⟩;rw[ah gK,<-e2];simp(disch:=omega)[↓ac,hg,hF,hv]
def Do (F:AV)(P:ca->Bool)(l:AA_)(hl:l.length<=1000000000)(h:am)(N:Nat)(hF:firm (share F)=F)(hF2:firm F=F)(hc:∀f∈l,∀M,N<=M->b7 (Dn prog) F [.agg f.av] ⟨h,M⟩=some (B_ (P f),⟨h,M+1⟩)) :
  ∃M,N<=M∧(Dn prog).call fo [.d (.lst (eh l)),F] ⟨h,N⟩=some (B_ (l.any P),⟨h,M⟩):=by
 have h1:=Y2 F P l hl h N hF hc l 0 N rfl (ai _);have c0:((0:Nat):Int)=0:=rfl;rw[c0]at h1;have h2:∃(k:Int) (M:Nat),N<=M∧(0<=k↔l.any P=true)∧(Dn prog).call tw [.d (.lst (eh l)),F] ⟨h,N⟩=some (A_ k,⟨h,M⟩):=by
  rcases h1 with ⟨e1,k,M,e3,e2⟩|⟨e1,M,e3,e2⟩
  .refine⟨k,M,e3,⟨λ_=>e1,λ_=>by omega⟩,?_⟩;rw[ba tL tJ rfl];simp(disch:=omega)[e2]
  .refine⟨-1,M,e3,⟨λh=>by omega,λh=>by simp_all⟩,?_⟩;rw[ba tL tJ rfl];simp(disch:=omega)[e2]
 obtain⟨k,M,e3,e1,e2⟩:=h2;refine⟨M,e3,?_⟩;rw[ba BC BD rfl]
 cases hp:l.any P with
 |true =>
  have:=e1.2 hp;simp(disch:=omega)[↓ac,hF2,e2]
 |false =>
  have:¬0<=k:=λh=>by simp_all
  simp(disch:=omega)[↓aa,hF2,e2]
def acn (lo hi v:Int)(hlo:-100<=lo∧lo<=0)(hhi:0<=hi∧hi<=100)(X:Obj)(N:Nat):(Dn prog).call uG [A_ v,.ptr 1 0,.ptr 2 0] ⟨[(0,X),(1,.cells [A_ lo]),(2,.cells [A_ hi])],N⟩=some (B_ (decide (v<lo∨hi<v)),⟨[(0,X),(1,.cells [A_ lo]),(2,.cells [A_ hi])],N⟩):=by
 rw[ba VF XK rfl];by_cases h1:v<lo
 .simp(disch:=omega)[↓ac,h1]
 .by_cases h2:hi<v
  .simp(disch:=omega)[↓ac,↓aa,h1,h2]
  .simp(disch:=omega)[↓ac,↓aa,h1,h2]
def al7 (X:Obj)(l:G_)(hl:l.length<=1000000)(fine:Bool):(Dn prog).call mr [.d (.lst (aF l)),.fn uG [] [.ptr 1 0,.ptr 2 0]] ⟨[(0,X),(1,.cells [A_ (-dw fine)]),(2,.cells [A_ (dw fine-1)])],3⟩ =
  some (B_ (!decide (∀c∈l,-dw fine<=c∧c<dw fine)),⟨[(0,X),(1,.cells [A_ (-dw fine)]),(2,.cells [A_ (dw fine-1)])],3⟩):=by
 have hh:4<=dw fine∧dw fine<=8:=by grind [dw]
 have h1:=yI (.fn uG [] [.ptr 1 0,.ptr 2 0]) (λc=>decide (c < -dw fine∨dw fine-1<c)) l o_ [(0,X),(1,.cells [A_ (-dw fine)]),(2,.cells [A_ (dw fine-1)])] 3 rfl rfl λv _=>by
  have:=acn (-dw fine) (dw fine-1) v o_ o_ X 3
  simp_all
 have e:(λc:Int=>decide (c < -dw fine∨dw fine-1<c))=λc=>decide (c < -dw fine∨dw fine<=c):=by
  grind
 rw[e,aeE]at h1;exact h1
def aix (sh:Bool)(f:ca)(hl:f.coefs.length<=1000000):bq prog Oy [.agg f.av,B_ sh]=some (B_ (decide (Ak sh f))):=by
 rw[aU aca acF rfl];have hll:=gQ (l:=f.coefs);have hls:yK sh=if sh then 15 else 63:=rfl
 have hos:u7 sh=if sh then 7 else 12:=rfl
 by_cases a1:0<=f.len∧f.len<=yK sh
 .by_cases a2:0<=f.order∧f.order<=u7 sh
  .by_cases a3:(f.coefs.length:Int)=f.order
   .by_cases a4:f.order=0∧f.down=true
    .rw[decide_eq_false (λh=>by have:=h.2.2.2.1 a4.1;simp_all)];obtain⟨a4,a5⟩:=a4
     cases sh<;>simp only[yK,u7,bc,ao,bf]at a1 a2<;>simp(disch:=omega)[↓ac,↓aa,a5]
    .have hc:=al7 (.cells f.av) f.coefs hl f.fine;have hd:decide (Ak sh f)=decide (∀c∈f.coefs,-dw f.fine<=c∧c<dw f.fine):=by
      rw[decide_eq_decide];refine⟨λh=>h.2.2.2.2,λh=>⟨a1,a2,a3,λh0=>?_,h⟩⟩
      simp_all
     rw[hd];generalize decide (∀c∈f.coefs,-dw f.fine<=c∧c<dw f.fine)=B at *;have h4:dw false=4:=rfl;have h8:dw true=8:=rfl;by_cases h0:f.order=0
     .have hdn:f.down=false:=by
       simp_all
      cases hfn:f.fine<;>simp only[hfn,h4,h8,Int.reduceNeg,Int.reduceSub]at hc<;>cases sh<;>simp only[yK,u7,bc,ao,bf]at a1 a2<;>simp(disch:=omega)[↓ac,↓aa,hdn,hfn,hc]
     .cases hfn:f.fine<;>simp only[hfn,h4,h8,Int.reduceNeg,Int.reduceSub]at hc<;>cases sh<;>simp only[yK,u7,bc,ao,bf]at a1 a2<;>simp(disch:=omega)[↓ac,↓aa,hfn,hc]
   .rw[decide_eq_false (λh=>a3 h.2.2.1)]
    cases sh<;>simp only[yK,u7,bc,ao,bf]at a1 a2<;>simp(disch:=omega)[↓ac,↓aa]
  .rw[decide_eq_false (λh=>a2 h.2.1)];by_cases b1:f.order<0
   .cases sh<;>simp only[yK,u7,bc,ao,bf]at a1 a2<;>simp(disch:=omega)[↓ac,↓aa]
   .cases sh<;>simp only[yK,u7,bc,ao,bf]at a1 a2<;>simp(disch:=omega)[↓ac,↓aa]
 .rw[decide_eq_false (λh=>a1 h.1)];by_cases b1:f.len<0
  .cases sh<;>simp only[yK,bc,ao,bf]at a1<;>simp(disch:=omega)[↓ac]
  .cases sh<;>simp only[yK,bc,ao,bf]at a1<;>simp(disch:=omega)[↓ac,↓aa]
def Lt (H:am)(N:Nat):Prop:=∀p∈H,p.1<N
def tR {H:am}{N:Nat}{o:Obj}(h:Lt H N):put H N o=H++[(N,o)]:=by
 induction H with
 |nil=>rfl
 |cons p r ih =>
  obtain⟨k,v⟩:=p;have h1:=h (k,v) (.head _);rw[u9,aa o_,aa o_,ih (λp hp=>h p (.tail _ hp)),aR]
def Gb {H:am}{N:Nat}{o o':Obj}(h:Lt H N):put (H++[(N,o)]) N o'=H++[(N,o')]:=by
 induction H with
 |nil=>simp_all
 |cons p r ih =>
  obtain⟨k,v⟩:=p;have h1:=h (k,v) (.head _);rw[aR,u9,aa o_,aa o_,ih (λp hp=>h p (.tail _ hp)),aR]
def wC {H:am}{N:Nat}{o:Obj}(h:Lt H N):get (H++[(N,o)]) N=some o:=by
 induction H with
 |nil=>simp_all
 |cons p r ih =>
  obtain⟨k,v⟩:=p;have h1:=h (k,v) (.head _);rw[aR,iG,aa o_,ih (λp hp=>h p (.tail _ hp))]
def zh {H:am}{N k:Nat}{o o':Obj}(h:get H k=some o'):get (H++[(N,o)]) k=some o':=by
 induction H<;>grind [zP,iG]
def Lo {H:am}{N:Nat}{o:Obj}(h:Lt H N):del (H++[(N,o)]) N=H:=by
 induction H with
 |nil=>simp_all
 |cons p r ih =>
  obtain⟨k,v⟩:=p;have h1:=h (k,v) (.head _);rw[aR,nt,aa o_,ih (λp hp=>h p (.tail _ hp))]
def IL {H:am}{N M:Nat}(h:Lt H N)(hm:N<=M):Lt H M:=λp hp=>aZ (h p hp) hm
def Lg {H:am}{N:Nat}{o:Obj}(h:Lt H N):Lt (H++[(N,o)]) (N+1):=by
 intro p hp;rcases bi.1 hp with h1|h1
 .have:=h p h1;omega
 simp_all
@[simp] def aDB (a b:Bool):adi true (B_ a) (B_ b)=some (.bool (a != b)):=by cases a<;>cases b<;>rfl
def Zk (sh:Bool)(f0 f:ca):Bool:=!decide (Ak sh f) ||f.fine != f0.fine
def aoY (sh:Bool)(f0:ca)(l:AA_)(f:ca)(hf:f.coefs.length<=1000000)(H:am)(p q M:Nat)(hp:get H p=some (.cells [B_ sh]))(hq:get H q=some (.cells [.d (.lst (eh (f0::l)))]))(hl:(f0::l).length<=1000000)(hM:Lt H M) :
  (Dn prog).call nJ [.agg f.av,.ptr p 0,.ptr q 0] ⟨H,M⟩=some (B_ (Zk sh f0 f),⟨H,M+1⟩):=by
 have e1:=λo=>tR (o:=o) hM
 have e2:=λo=>wC (o:=o) hM
 have e3:=λo=>zh (N:=M) (o:=o) hp
 have e4:=λo=>zh (N:=M) (o:=o) hq
 have e5:=λo=>Lo (o:=o) hM
 have e6:=aix sh f hf;have hg:=GC (l:=f0::l) (i:=0) (s:=f0) (r:=l) rfl;unfold Zk;rw[ba Uk UH rfl];simp only[ca.av]at e6⊢
 cases hB:decide (Ak sh f) with
 |false =>
  rw[hB]at e6;simp(disch:=omega)[e1,e2,e3,e5,e6]
 |true =>
  rw[hB]at e6
  cases hf1:f.fine<;>cases hf2:f0.fine<;>rw[hf1]at e6<;>rw[hf2]at hg<;>
   simp(disch:=omega)[e1,e2,e3,e4,e5,e6,hg]
structure cS where
 gain:Int
 info:aM
 sects:H_
 steps:L_
 tns:O_
 lines:G_
abbrev BA_:=List cS
abbrev cS.av (c:cS):D_:=[A_ c.gain,.d (.int .u8 c.info.seq),.d (.int .u8 c.info.shape),A_ c.info.max,.d (.lst (aF c.info.groups)),.d (.lst (bF c.sects)),.d (.lst (c7 c.steps)),.d (.lst (cX c.tns)),.d (.lst (aF c.lines))]
structure cS.Fit (c:cS):Prop where
 gain:i64 c.gain
 info:c.info.Fit
 sects:arA c.sects
 secI:∀l∈c.sects,∀s∈l,i64 s.book∧i64 s.len
 steps:c.steps.length<=1000∧∀l∈c.steps,l.length<=1000
 stepI:∀l∈c.steps,∀n∈l,i64 n
 tns:c.tns.length<=1000∧∀l∈c.tns,l.length<=1000∧∀f∈l,f.coefs.length<=1000
 fltI:∀l∈c.tns,∀f∈l,(i64 f.len∧i64 f.order)∧∀x∈f.coefs,i64 x
 lines:c.lines.length<=100000
 lineI:∀n∈c.lines,i64 n
def pC (sh:Bool):Nat:=if sh then 1 else 3
def sS (sh:Bool)(l:AA_):Prop:=l.length<=pC sh∧∀f0∈l.head?,∀f∈l,Ak sh f∧f.fine=f0.fine
abbrev Ri (i:aM)(t:O_):Prop:=t.length=i.many∧∀l∈t,sS i.short l
def atF {sh:Bool}{f0:ca}{l:AA_}:l.any (Zk sh f0)=false↔∀f∈l,Ak sh f∧f.fine=f0.fine:=by
 grind [Zk]
def ZZ (sh:Bool):AA_->Bool
 |[]=>false
 |f0::r=>(f0::r).any (Zk sh f0)
theorem aeL {sh:Bool}{l:AA_}:sS sh l↔l.length<=pC sh∧ZZ sh l=false:=by
 unfold sS
 cases l with
 |nil=>simp[ZZ]
 |cons f0 r0 =>
  simp only[ZZ,atF]
  simp_all
instance {sh:Bool}{l:AA_}:Decidable (sS sh l):=decidable_of_iff _ aeL.symm
def VQ (sh:Bool)(full:O_)(hl:full.length<=1000)(hl2:∀l∈full,l.length<=1000∧∀f∈l,f.coefs.length<=1000):∀(r:O_) (i N:Nat) (H:am),full.drop i=r->get H 1=some (.cells [B_ sh])->Lt H N->2<=N->
  ((∀l∈r,sS sh l)∧∃H2 M,(Dn prog).code (.loop my) ⟨[(5,.ptr 1 0),(6,A_ (pC sh)),(20,.d (.lst (cX full))),(21,A_ full.length),(22,A_ i)],⟨H,N⟩⟩=some (.exit 0,⟨[],⟨H2,M⟩⟩))∨
  ((¬∀l∈r,sS sh l)∧∃H2 M,(Dn prog).code (.loop my) ⟨[(5,.ptr 1 0),(6,A_ (pC sh)),(20,.d (.lst (cX full))),(21,A_ full.length),(22,A_ i)],⟨H,N⟩⟩=some (.ret,⟨[(4,B_ false)],⟨H2,M⟩⟩)):=by
 intro r
 induction r with
 |nil =>
  intro i N H hd hH hL hN;have hi:=bQ hd;refine .inl ⟨s_,H,N,?_⟩;rw[ah mC];simp(disch:=omega)[↓aa]
 |cons l r ih =>
  intro i N H hd hH hL hN;have hg:=I8 hd;have hlt:=cm hd;obtain⟨hll,hlc⟩:=hl2 l (by rw[<-aT i full,hd];simp);have hm:pC sh<=3:=by grind [pC]
  have e1:=λo=>tR (o:=o) hL
  have e2:=λo=>wC (o:=o) hL
  have e3:=λo=>zh (N:=N) (o:=o) hH
  have e4:=λo o'=>Gb (o:=o) (o':=o') hL
  have c1:((i+1:Nat):Int)=(i:Int)+1:=rfl;by_cases h1:l.length<=pC sh
  .have hcf:∃M,N+1<=M∧(Dn prog).call fo [.d (.lst (eh l)),.fn nJ [] [.ptr 1 0,.ptr N 0]] ⟨H++[(N,.cells [.d (.lst (eh l))])],N+1⟩=some (B_ (ZZ sh l),⟨H++[(N,.cells [.d (.lst (eh l))])],M⟩):=by
    cases l with
    |nil =>
     exact Do (.fn nJ [] [.ptr 1 0,.ptr N 0]) (λ_=>false) [] s_ _ (N+1) rfl rfl λf hf=>by simp at hf
    |cons f0 r0 =>
     refine Do (.fn nJ [] [.ptr 1 0,.ptr N 0]) (Zk sh f0) (f0::r0) o_ _ (N+1) rfl rfl λf hf M hM=>?_
     have:=aoY sh f0 r0 f d_ (H++[(N,.cells [.d (.lst (eh (f0::r0)))])]) 1 N M (e3 _) (e2 _) o_ (IL (Lg hL) hM)
     simp_all
   obtain⟨M,hM,e5⟩:=hcf;have hW:ZZ sh l=false↔sS sh l:=by grind [aeL]
   generalize ZZ sh l=B at *
   cases B with
   |true =>
    refine .inr ⟨λh=>?_,H++[(N,.cells [.d (.lst (eh l))])],M,?_⟩
    .simp_all
    .rw[ah mC];simp(disch:=omega)[↓ac,↓aa,hg,e1,e2,e4,e5]
   |false =>
    have h5:=ih (i+1) M (H++[(N,.cells [.d (.lst (eh l))])]) (bE hd) (e3 _) (IL (Lg hL) hM) o_;rcases h5 with ⟨f1,H2,M2,f2⟩|⟨f1,H2,M2,f2⟩
    .refine .inl ⟨λq hq=>?_,H2,M2,?_⟩
     .grind
     .rw[ah mC,<-f2];simp(disch:=omega)[↓ac,↓aa,hg,e1,e2,e4,e5]
    .refine .inr ⟨λh=>f1 λq hq=>h q (.tail _ hq),H2,M2,?_⟩;rw[ah mC,<-f2];simp(disch:=omega)[↓ac,↓aa,hg,e1,e2,e4,e5]
  .refine .inr ⟨λh=>h1 (h l (.head _)).1,H++[(N,.cells [.d (.lst (eh l))])],N+1,?_⟩;rw[ah mC];simp(disch:=omega)[↓ac,hg,e1,e2,e4]
def aga (c:cS)(hc:c.Fit)(w:Nat)(hw:w<=8):bq prog Dh [.agg c.av,A_ w]=some (B_ (decide (c.tns.length=w∧∀l∈c.tns,sS c.info.short l))):=by
 have hl:=hc.tns.1;have h0:=VQ c.info.short c.tns hc.tns.1 hc.tns.2 c.tns 0 2 [(1,.cells [B_ c.info.short])] rfl s_ (λp hp=>by simp_all) o_;have c0:((0:Nat):Int)=0:=rfl;rw[c0]at h0;have m1:((1:Nat):Int)=1:=rfl;have m3:((3:Nat):Int)=3:=rfl;rw[aU Yy YH rfl];by_cases h1:c.tns.length=w
 .have hsh:c.info.short=decide (c.info.seq=2):=rfl;have e:decide (c.tns.length=w∧∀l∈c.tns,sS c.info.short l)=decide (∀l∈c.tns,sS c.info.short l):=by simp[h1]
  rw[e];rcases h0 with ⟨f1,H2,M2,f2⟩|⟨f1,H2,M2,f2⟩
  .rw[decide_eq_true f1];by_cases hs:c.info.seq=2
   .rw[decide_eq_true hs]at hsh;rw[hsh]at f2;simp only[pC,bc,m1]at f2;simp(disch:=omega)[↓ac,↓aa,f2]
   .rw[decide_eq_false hs]at hsh;rw[hsh]at f2;simp only[pC,ao,bf,m3]at f2;simp(disch:=omega)[↓ac,↓aa,f2]
  .rw[decide_eq_false f1];by_cases hs:c.info.seq=2
   .rw[decide_eq_true hs]at hsh;rw[hsh]at f2;simp only[pC,bc,m1]at f2;simp(disch:=omega)[↓ac,↓aa,f2]
   .rw[decide_eq_false hs]at hsh;rw[hsh]at f2;simp only[pC,ao,bf,m3]at f2;simp(disch:=omega)[↓ac,↓aa,f2]
 .rw[decide_eq_false (λh=>h1 h.1)];by_cases hs:c.info.seq=2
  .simp(disch:=omega)[↓ac,↓aa]
  .simp(disch:=omega)[↓ac,↓aa]
def Ey:Int->Q_->Option Int
 |a,[]=>some a
 |a,s::r=>if (1<=s.len∧s.len<=40)∧LA s.book then Ey (a+s.len) r else none
def ZN:∀{l:Q_}{a v:Int},Ey a l=some v->a+l.length<=v∧v<=a+40*l.length
 |[],a,v,h=>by simp only[Ey]at h;injection h with h;simp;omega
 |s::r,a,v,h=>by
  rw[Ey]at h;split at h
  .rename_i h1;have:=ZN h;simp only[ar];omega
  .exact absurd h (by simp)
def QP {m:Int}(hm:m<=40):∀{l:Q_}{a:Int},0<=a->(Ey a l=some m↔fitsS (m-a) l)
 |[],a,h=>by
  simp only[Ey,fitsS,ae];omega
 |s::r,a,h=>by
  rw[Ey,fitsS];by_cases h1:(1<=s.len∧s.len<=40)∧LA s.book
  .rw[ac h1,QP hm o_];have e:m-(a+s.len)=m-a-s.len:=o_;rw[e];constructor
   .intro h2;refine⟨⟨⟨h1.1.1,?_⟩,h1.2⟩,h2⟩;have:=(QP (l:=r) (a:=a+s.len) hm o_).2 (by rw[e];exact h2);have:=ZN this;omega
   .intro h2;exact h2.2
  .rw[aa h1];constructor
   .intro h2;exact absurd h2 (by simp)
   .intro h2;obtain⟨⟨⟨a1,a2⟩,a3⟩,a4⟩:=h2;exact absurd ⟨⟨a1,o_⟩,a3⟩ h1
def Ui (full:Q_)(hl:full.length<=1000)(X:Obj)(x4:AV)(x17:AV)(y18 y19:D):∀(r:Q_) (i:Nat) (a:Int) (N:Nat),full.drop i=r->0<=a∧a<=40*i->1<=N->
  ∃M,N<=M∧(Dn prog).code (.loop oS) ⟨[(1,.ptr 0 0),(4,x4),(5,A_ a),(17,x17),(18,.d y18),(19,.d y19),(23,.d (.lst (gx full))),(24,A_ full.length),(25,A_ i)],⟨[(0,X)],N⟩⟩ =
  match Ey a r with
  |some v=>some (.exit 2,⟨[(1,.ptr 0 0),(4,x4),(5,A_ v),(17,x17),(18,.d y18),(19,.d y19)],⟨[(0,X)],M⟩⟩)
  |none=>some (.ret,⟨[(2,B_ false)],⟨[],M⟩⟩):=by
 intro r
 induction r with
 |nil =>
  intro i a N h h0 hN;have hi:=bQ h;refine⟨N,ai _,?_⟩;rw[ah u6,Ey];simp(maxSteps:=300000) (disch:=omega)[↓ac,↓aa]
 |cons s r ih =>
  intro i a N h h0 hN;have hg:=yD h;have hlt:=cm h;have hN0:N≠0:=o_;by_cases hr:(1<=s.len∧s.len<=40)∧LA s.book
  .have hr1:=hr.1;obtain⟨M,hM,e⟩:=ih (i+1) (a+s.len) (N+1) (bE h) o_ o_;refine⟨M,o_,?_⟩;have c1:((i+1:Nat):Int)=(i:Int)+1:=rfl;rw[c1]at e;rw[ah u6,Ey,ac hr,<-e];obtain⟨⟨r1,r2⟩,r3,r4|r4⟩:=hr
   .simp(maxSteps:=300000) (disch:=omega)[↓ac,↓aa,hg,hN0]
   .simp(maxSteps:=300000) (disch:=omega)[↓ac,↓aa,hg,hN0]
  .refine⟨N+1,o_,?_⟩;rw[ah u6,Ey,aa hr];by_cases b1:s.len<1
   .simp(maxSteps:=300000) (disch:=omega)[↓ac,↓aa,hg,hN0]
   .by_cases b2:40<s.len
    .simp(maxSteps:=300000) (disch:=omega)[↓ac,↓aa,hg,hN0]
    .by_cases b3:s.book<0
     .simp(maxSteps:=300000) (disch:=omega)[↓ac,↓aa,hg,hN0]
     .have b4:11<s.book∧s.book≠13:=by
       unfold LA at hr;omega
      obtain⟨b4,b5⟩:=b4;simp(maxSteps:=300000) (disch:=omega)[↓ac,↓aa,hg,hN0]
def asU:∀x∈FH,qA x.1 x.2<=40:=e_
def ig {i:aM}(hm:i.may 11):0<=i.max∧i.max<=40:=by
 have h1:=hm.2.2.1;have h2:=hm.2.2.2.1;have h3:=asU _ (fh (r:=11) (s:=decide (i.seq=2)) o_);simp only[]at h3;omega
def UQ (c:cS)(hm:0<=c.info.max∧c.info.max<=40)(hl:c.sects.length<=1000)(hl2:∀l∈c.sects,l.length<=1000):∀(g:H_) (j:Nat) (N:Nat),c.sects.drop j=g->1<=N->
  ∃H M,(Dn prog).code (.loop oQ) ⟨[(1,.ptr 0 0),(17,.d (.lst (bF c.sects))),(18,A_ c.sects.length),(19,A_ j)],⟨[(0,.cells c.av)],N⟩⟩ =
  if fk c.info.max g then some (.exit 0,⟨[],⟨H,M⟩⟩) else some (.ret,⟨[(2,B_ false)],⟨H,M⟩⟩):=by
 simp only[cS.av];intro g
 induction g with
 |nil =>
  intro j N h hN;have hi:=bQ h;refine⟨[],N,?_⟩;rw[ah oR,ac (show fk c.info.max [] from λ_ h=>by simp at h)];simp(maxSteps:=300000) (disch:=omega)[↓ac,↓aa]
 |cons l r ih =>
  intro j N h hN;have hg:=pb h;have hlt:=cm h;have hll:l.length<=1000:=hl2 l (by rw[<-aT j c.sects,h];simp);obtain⟨M,hM,e⟩:=Ui l hll (.cells c.av) (.d (.lst (gx l))) (.d (.lst (bF c.sects))) (.int .i64 c.sects.length) (.int .i64 j) l 0 0 N rfl o_ hN;have c0:((0:Nat):Int)=0:=rfl;rw[c0]at e;simp only[cS.av]at e;have hiff:=QP (m:=c.info.max) hm.2 (l:=l) (a:=0) o_;rw[Int.sub_zero]at hiff
  cases hrm:Ey 0 l with
  |none =>
   rw[hrm]at e hiff;refine⟨[],M,?_⟩;have hn:¬fk c.info.max (l::r):=λh=>absurd (hiff.2 (h l (.head _))) (by simp)
   rw[ah oR,aa hn];simp(maxSteps:=300000) (disch:=omega)[↓ac,↓aa,hg,e]
  |some v =>
   rw[hrm]at e hiff;have hv:=ZN hrm;by_cases h9:v=c.info.max
   .subst h9;have hf:=hiff.1 rfl;obtain⟨H2,M2,e2⟩:=ih (j+1) M (bE h) o_;refine⟨H2,M2,?_⟩;have hx:fk c.info.max (l::r)↔fk c.info.max r:=by simp[fk,hf]
    have c1:((j+1:Nat):Int)=(j:Int)+1:=rfl;rw[c1]at e2;rw[ah oR,asm hx,<-e2];simp(maxSteps:=300000) (disch:=omega)[↓ac,↓aa,hg,e]
   .refine⟨[],M,?_⟩;have hn:¬fk c.info.max (l::r):=λh=>by
     have:=hiff.2 (h l (.head _));injection this with this;exact h9 this
    rw[ah oR,aa hn];simp(maxSteps:=300000) (disch:=omega)[↓ac,↓aa,hg,e]
instance {m:Int}{g:H_}:Decidable (fk m g):=by unfold fk;infer_instance
def ab1 (c:cS)(hc:c.Fit)(hm:c.info.may 11):bq prog AY [.agg c.av]=some (B_ (decide (jn c.info c.sects))):=by
 obtain⟨H,M,e⟩:=UQ c (ig hm) hc.sects.1 hc.sects.2 c.sects 0 1 rfl o_;have c0:((0:Nat):Int)=0:=rfl;rw[c0]at e;simp only[cS.av]at e⊢;have hl1:=hc.sects.1;have hl2:=hc.info.len;rw[aU Xw XV rfl];by_cases h1:c.sects.length=c.info.groups.length
 .by_cases h2:fk c.info.max c.sects
  .rw[decide_eq_true ⟨h1,h2⟩];rw[ac h2]at e;simp(maxSteps:=300000) (disch:=omega)[↓ac,↓aa,e]
  .rw[decide_eq_false (λh=>h2 h.2)];rw[aa h2]at e;simp(maxSteps:=300000) (disch:=omega)[↓ac,↓aa,e]
 .rw[decide_eq_false (λh=>h1 h.1)];simp(maxSteps:=300000) (disch:=omega)[↓ac,↓aa]
abbrev qJ:=@Nat.add_right_cancel_iff
def IR (w n:Int)(hw:-1000<=w∧w<=1000)(hn:-1000<=n∧n<=1000):bq prog TY [A_ w,A_ n]=some (B_ (decide (w-60<=n∧n<=w+60))):=by
 rw[aU ag2 ahV rfl];by_cases h1:w-60<=n
 .by_cases h2:n<=w+60
  .rw[decide_eq_true ⟨h1,h2⟩];simp(disch:=omega)[↓ac]
  .rw[decide_eq_false (λh=>h2 h.2)];simp(disch:=omega)[↓ac,↓aa]
 .rw[decide_eq_false (λh=>h1 h.1)];simp(disch:=omega)[↓aa]
def aeV (full:Q_)(hl:full.length<=1000):∀(r:Q_) (i b N:Nat) (lf:Int) (k:Int),full.drop i=r->fitsS lf r->lf<=1000->(aK r)[b]?=some k->
  ∃M,(Dn prog).code (.loop wH) ⟨[(2,A_ b),(25,.d (.lst (gx full))),(26,A_ full.length),(27,A_ i)],⟨[],N⟩⟩ =
  some (.ret,⟨[(6,A_ k),(7,A_ 0)],⟨[],M⟩⟩):=by
 intro r
 induction r with
 |nil=>grind [aK]
 |cons s r ih =>
  intro i b N lf k h hf h0 hk;have hg:=yD h;have hlt:=cm h;obtain⟨h1,h2⟩:=hf;have eb:aK (s::r)=List.replicate s.len.toNat s.book++aK r:=by grind [aK]
  rw[eb]at hk;by_cases hb:(b:Int)<s.len
  .rw[bZ u_]at hk;have hk2:k=s.book:=by
    simp_all
   subst hk2;refine⟨N+1,?_⟩;rw[ah Kx];simp(disch:=omega)[↓ac,↓aa,hg]
  .rw[ct u_]at hk;simp only[bn]at hk;obtain⟨M,e⟩:=ih (i+1) (b-s.len.toNat) (N+1) (lf-s.len) k (bE h) h2 o_ hk;refine⟨M,?_⟩;have c1:((i+1:Nat):Int)=(i:Int)+1:=rfl;have c2:((b-s.len.toNat:Nat):Int)=(b:Int)-s.len:=o_;have hbl:b<100000000:=by
    grind [rV]
   rw[c1,c2]at e;rw[ah Kx,<-e];simp(disch:=omega)[↓ac,↓aa,hg]
def aap (g:H_)(hl:g.length<=1000)(hl2:∀l∈g,l.length<=1000)(m:Int)(hm:m<=1000)(hf:fk m g)(j b:Nat)(l:Q_)(r:H_)(hd:g.drop j=l::r)(k:Int)(hk:(aK l)[b]?=some k) :
  bq prog TM [.d (.lst (bF g)),A_ j,A_ b]=some (.tup [A_ k,A_ 0]):=by
 have hg:=pb hd;have hlt:=cm hd;have hmem:l∈g:=by rw[<-aT j g,hd];simp
 have hbl:b<100000000:=by
  have h6:=hf l hmem;rcases Int.le_total 0 m with h|h
  .grind [rV]
  .rcases HP h6 with h7|h7
   .have:l=[]:=by cases l<;>grind
    grind [aK]
   grind [aK]
 obtain⟨M,e⟩:=aeV l (hl2 l hmem) l 0 b 0 m k rfl (hf l hmem) hm hk;have c0:((0:Nat):Int)=0:=rfl;rw[c0]at e;rw[aU aiv aid rfl];simp(disch:=omega)[↓aa,hg,e]
def xJ (z:Int):Int:=if 0<=z then z else 0
def aah {k n:Int}{r t:G_}{w z:Int}(h:k=0->n≠0)(h1:k≠0->¬kW k n w z):dF (k::r) (n::t) w z=none:=by
 grind [dF]
def acu (c:cS)(hl:c.sects.length<=1000)(hl2:∀l∈c.sects,l.length<=1000)(m:Int)(hm:0<=m∧m<=1000)(hf:fk m c.sects)(x23:AV)(y24 y25:D)(j:Nat)(l:Q_)(rr:H_)(hd:c.sects.drop j=l::rr)(t:G_)(ht:t.length<=1000)(hbl:(aK l).length=t.length)(htI:∀n∈t,i64 n)(N:Nat):∀(r:G_) (b:Nat) (w z:Int),t.drop b=r->tj w->tj z->
  ∃H,(Dn prog).code (.loop uD) ⟨[(1,.ptr 0 0),(3,A_ w),(4,A_ (xJ z)),(5,B_ (decide (0<=z))),(6,A_ j),(23,x23),(24,.d y24),(25,.d y25),(36,.d (.lst (aF t))),(37,A_ t.length),(38,A_ b)],⟨[(0,.cells c.av)],N⟩⟩ =
  match dF ((aK l).drop b) r w z with
  |some (w,z)=>some (.exit 2,⟨[(1,.ptr 0 0),(3,A_ w),(4,A_ (xJ z)),(5,B_ (decide (0<=z))),(23,x23),(24,.d y24),(25,.d y25)],⟨[(0,.cells c.av)],N⟩⟩)
  |none=>some (.ret,⟨[(2,B_ false)],⟨H,N⟩⟩):=by
 simp only[cS.av];intro r
 induction r with
 |nil =>
  intro b w z h hw hz;have hi:=bQ h;refine⟨[],?_⟩;rw[ah jF,cH o_,dF];simp(disch:=omega)[↓aa]
 |cons n r ih =>
  intro b w z h hw hz;have hg:=zu h;have hlt:=cm h;have hnI:=htI n (by rw[<-aT b t,h];simp);have hblt:b<(aK l).length:=o_;have hkk:=dY hblt;obtain⟨k,hk⟩:∃k,k=(aK l)[b]:=⟨_,rfl⟩
  have hk?:(aK l)[b]?=some k:=u_;have hmem:l∈c.sects:=by rw[<-aT j c.sects,hd];simp
  have hkr:=Mi (hf l hmem) k u_;rw[<-hk]at hkk;have hB:=aap c.sects hl hl2 m hm.2 hf j b l rr hd k hk?;have c1:((b+1:Nat):Int)=(b:Int)+1:=rfl;rw[hkk];by_cases k0:k=0
  .by_cases n0:n=0
   .obtain⟨H,e⟩:=ih (b+1) w z (bE h) hw hz;refine⟨H,?_⟩;rw[c1]at e;have eR:dF (k::(aK l).drop (b+1)) (n::r) w z=dF ((aK l).drop (b+1)) r w z:=by grind [dF]
    rw[ah jF,eR,<-e];subst k0 n0;simp(disch:=omega)[↓ac,↓aa,hg,hB]
   .refine⟨[],?_⟩;rw[ah jF,aah (λ_=>n0) (λh=>absurd k0 h)];subst k0;simp(disch:=omega)[↓ac,↓aa,hg,hB]
  .by_cases k13:k=13
   .by_cases ho:kW k n w z
    .have hn5:=PN ho;obtain⟨H,e⟩:=ih (b+1) w n (bE h) hw hn5;refine⟨H,?_⟩;unfold kW at ho;rw[ac k13]at ho;have hnn:xJ n=n:=by grind [xJ]
     rw[c1,hnn,decide_eq_true (show 0<=n by omega)]at e;have eR:dF (k::(aK l).drop (b+1)) (n::r) w z=dF ((aK l).drop (b+1)) r w n:=by grind [dF]
     rw[ah jF,eR,<-e];subst k13;by_cases hz0:0<=z
     .have hzn:xJ z=z:=by grind [xJ]
      have hnr:=IR z n o_ o_;rw[decide_eq_true (show z-60<=n∧n<=z+60 by omega)]at hnr;rw[hzn,decide_eq_true hz0];simp(disch:=omega)[↓ac,↓aa,hg,hB,hnr]
     .rw[decide_eq_false hz0];simp(disch:=omega)[↓ac,↓aa,hg,hB]
    .refine⟨[],?_⟩;rw[ah jF,aah (λh=>absurd h k0) (λ_=>ho)];unfold kW at ho;rw[ac k13]at ho;subst k13;by_cases b1:n<0
     .simp(disch:=omega)[↓ac,↓aa,hg,hB]
     .by_cases b2:511<n
      .simp(disch:=omega)[↓ac,↓aa,hg,hB]
      .have hz0:0<=z:=o_;have hzn:xJ z=z:=by grind [xJ]
       have hnr:=IR z n o_ o_;rw[decide_eq_false (show ¬(z-60<=n∧n<=z+60) by omega)]at hnr;rw[hzn,decide_eq_true hz0];simp(disch:=omega)[↓ac,↓aa,hg,hB,hnr]
   .by_cases ho:kW k n w z
    .have hn5:=PN ho;obtain⟨H,e⟩:=ih (b+1) n z (bE h) hn5 hz;refine⟨H,?_⟩;have eR:dF (k::(aK l).drop (b+1)) (n::r) w z=dF ((aK l).drop (b+1)) r n z:=by grind [dF]
     unfold kW at ho;rw[aa k13]at ho;rw[c1]at e;have hnr:=IR w n o_ o_;rw[decide_eq_true (show w-60<=n∧n<=w+60 by omega)]at hnr;rw[ah jF,eR,<-e];simp(disch:=omega)[↓ac,↓aa,hg,hB,hnr]
    .refine⟨[],?_⟩;rw[ah jF,aah (λh=>absurd h k0) (λ_=>ho)];unfold kW at ho;rw[aa k13]at ho;by_cases b1:n<0
     .simp(disch:=omega)[↓ac,↓aa,hg,hB]
     .by_cases b2:255<n
      .simp(disch:=omega)[↓ac,↓aa,hg,hB]
      .have hnr:=IR w n o_ o_;rw[decide_eq_false (show ¬(w-60<=n∧n<=w+60) by omega)]at hnr;simp(disch:=omega)[↓ac,↓aa,hg,hB,hnr]
def aul {bks:G_}:∀{t:G_}{w z:Int}{fin:Int×Int},tj w->tj z->dF bks t w z=some fin->tj fin.1∧tj fin.2:=by
 induction bks with
 |nil =>
  grind [dF]
 |cons k r ih =>
  intro t w z fin hw hz h
  cases t with
  |nil=>grind [dF]
  |cons n t =>
   obtain⟨h1,h2,h3⟩:=oN (by rw[h];simp)
   grind [jC]
def abS (c:cS)(hc:c.Fit)(hm:c.info.may 11)(hf:fk c.info.max c.sects):∀(gr:H_) (sr:L_) (j N:Nat) (w z:Int),c.sects.drop j=gr->c.steps.drop j=sr->gr.length=sr.length->tj w->tj z->
  ∃H M,(Dn prog).code (.loop uC) ⟨[(1,.ptr 0 0),(3,A_ w),(4,A_ (xJ z)),(5,B_ (decide (0<=z))),(23,.d (.lst (c7 c.steps))),(24,A_ c.steps.length),(25,A_ j)],⟨[(0,.cells c.av)],N⟩⟩ =
  match lX gr sr w z with
  |some _=>some (.exit 0,⟨[],⟨H,M⟩⟩)
  |none=>some (.ret,⟨[(2,B_ false)],⟨H,M⟩⟩):=by
 have hmx:=ig hm;have hl1:=hc.steps.1;simp only[cS.av];intro gr
 induction gr with
 |nil =>
  intro sr j N w z hd hd2 he hw hz;have hi2:c.steps.length<=j:=by
   grind
  have hsr:sr=[]:=d_;refine⟨[],N,?_⟩;rw[ah uw,hsr,lX];simp(disch:=omega)[↓ac,↓aa]
 |cons l r ih =>
  intro sr j N w z hd hd2 he hw hz
  cases sr with
  |nil=>simp at he
  |cons t s =>
   simp only[ar,qJ]at he;have hgt:=Qm hd2;have hlt2:=cm hd2;have hmt:t∈c.steps:=by rw[<-aT j c.steps,hd2];simp
   have htl:=hc.steps.2 t hmt;have hml:l∈c.sects:=by rw[<-aT j c.sects,hd];simp
   have hbk:=rV (hf l hml) hmx.1;have c0:((0:Nat):Int)=0:=rfl;rw[lX];by_cases hlen:(t.length:Int)=c.info.max
   .obtain⟨H,e⟩:=acu c hc.sects.1 hc.sects.2 c.info.max ⟨hmx.1,o_⟩ hf (.d (.lst (c7 c.steps))) (.int .i64 c.steps.length) (.int .i64 j) j l r hd t htl o_ (hc.stepI t hmt) N t 0 w z rfl hw hz;rw[c0,ll]at e
    cases hrow:dF (aK l) t w z with
    |none =>
     rw[hrow]at e;refine⟨H,N,?_⟩;rw[ah uw];simp(disch:=omega)[↓ac,hgt,e]
    |some fin =>
     rw[hrow]at e;obtain⟨f1,f2⟩:=aul hw hz hrow;obtain⟨H2,M2,e2⟩:=ih s (j+1) N fin.1 fin.2 (bE hd) (bE hd2) he f1 f2;refine⟨H2,M2,?_⟩;rw[ah uw];rw[<-e2];simp(disch:=omega)[↓ac,hgt,e]
   .refine⟨[],N,?_⟩;have hn:dF (aK l) t w z=none:=by
     cases hrow:dF (aK l) t w z<;>grind [UK]
    rw[ah uw,hn];simp(disch:=omega)[↓ac,↓aa,hgt]
instance {gain:Int}{g:H_}{t:L_}:Decidable (zi gain g t):=by unfold zi;infer_instance
def aln (c:cS)(hc:c.Fit)(hm:c.info.may 11)(hgn:0<=c.gain∧c.gain<=255)(hs:jn c.info c.sects):bq prog Hm [.agg c.av]=some (B_ (decide (zi c.gain c.sects c.steps))):=by
 have c0:((0:Nat):Int)=0:=rfl;have hnv:xJ (-1)=0:=rfl;have hdf:decide ((0:Int)<=-1)=false:=rfl;rw[aU adM afL rfl];by_cases h1:c.steps.length=c.info.groups.length
 .obtain⟨H,M,e⟩:=abS c hc hm hs.2 c.sects c.steps 0 1 c.gain (-1) rfl rfl o_ o_ o_;rw[c0,hnv,hdf]at e;by_cases hr:lX c.sects c.steps c.gain (-1)=none
  .rw[hr]at e;rw[decide_eq_false (λh=>h hr)];simp(disch:=omega)[↓ac,e]
  .obtain⟨fin,hf⟩:=Option.ne_none_iff_exists'.1 hr;rw[hf]at e;rw[decide_eq_true hr];simp(disch:=omega)[↓ac,e]
 .rw[decide_eq_false (λh=>h1 (by grind [Jc]))];simp(disch:=omega)[↓ac,↓aa]
abbrev ql:=@Bool.or_false
def agy {h:am}{l:G_}{a b:Nat}(hab:a<=b)(hb:b<=l.length)(x y:Int)(hx:x=a)(hy:y=b):pU h 1 (.d (.lst (aF l))) (some (A_ x)) (some (A_ y)) none=some (.d (.lst (aF ((l.drop a).take (b-a))))):=by
 have e1:dM (A_ (b:Int)) (aF l).length=some b:=by grind [wD,gQ]
 have e2:dM (A_ (a:Int)) b=some a:=by grind [wD]
 have e3:D1 1 (aF l)=true:=by cases l<;>rfl
 simp_all [pU,okSl,tU,vF,uN]
def aqo {id:Nat}(hid:1<=id∧id<=11):iB id<=8191:=(AL id (Rl hid)).2.2.2
def aok (id:Nat)(hid:1<=id∧id<=11)(v:Int)(hv:i64 v):bq prog TW [A_ id,A_ v]=some (B_ (decide (v.natAbs<=iB id))):=by
 have i4:[[D.int .i64 v],[D.int .i64 0],[D.int .i64 0],[D.int .i64 0]]=aF [v,0,0,0]:=rfl;have i2:[[D.int .i64 v],[D.int .i64 0]]=aF [v,0]:=rfl;have hz:J8 (iB id) 0=false:=by grind [J8]
 have hf:J8 (iB id) v=!decide (v.natAbs<=iB id):=by
  grind [J8]
 rw[aU ag9 ahy rfl];by_cases h4:4<id
 .have h:=Pv id hid [v,0] (by grind [bB]);simp only[eG,List.any_nil,hz,hf,ql,Bool.not_not]at h;rw[<-i2]at h;have hs:pU [] 1 (.own false 1 [[.int .i64 v],[.int .i64 0],[.int .i64 0],[.int .i64 0]]) none (some (A_ 2)) none=some (.d (.lst [[.int .i64 v],[.int .i64 0]])):=rfl;simp(disch:=omega)[↓ac,hs,h]
 .have h:=Pv id hid [v,0,0,0] (by grind [bB]);simp only[eG,List.any_nil,hz,hf,ql,Bool.not_not]at h;rw[<-i4]at h;simp(disch:=omega)[↓ac,↓aa,h]
def li:C_->Nat->Nat
 |[],_=>0
 |x::r,i=>if x<=i then li r i+1 else 0
def abU (os:C_)(ho:os.length<=100)(X:Obj)(x4 x54:AV)(y10 y12 y16 y34 y35 y55 y56:D)(i:Nat)(hi:i<=1000)(hoI:∀x∈os,x<=1000)(hp:HS):∀(r:C_) (b:Nat),os.drop (b+1)=r->(∃x∈r,i<x)->
  (Dn prog).code (.loop uO) ⟨[(4,x4),(8,.own false 1 (cN os)),(10,.d y10),(12,.d y12),(14,A_ b),(15,A_ i),(16,.d y16),(34,.d y34),(35,.d y35),(54,x54),(55,.d y55),(56,.d y56)],hp⟩ =
  some (.exit 4,⟨[(4,x4),(8,.own false 1 (cN os)),(10,.d y10),(12,.d y12),(14,A_ (b+li r i:Nat)),(16,.d y16),(34,.d y34),(35,.d y35),(54,x54),(55,.d y55),(56,.d y56)],hp⟩):=by
 obtain⟨h,n⟩:=hp;intro r
 induction r with
 |nil=>simp_all
 |cons x r ih =>
  intro b hd hx;have hlt:=cm hd;have hnx:nth os (b+1)=x:=by
   grind [pP]
  have hg:(cN os)[b+1]?=some [.int .i64 (x:Int)]:=by grind [Dk]
  have hxI:=hoI x (by grind [iP]);rw[ah Xv,li];by_cases h1:x<=i
  .have hx2:∃y∈r,i<y:=by
    grind
   have h5:=ih (b+1) (bE hd) hx2;rw[ac h1,show b+(li r i+1)=b+1+li r i by omega,<-h5];simp(disch:=omega)[↓ac,hg]
  .simp(disch:=omega)[↓aa,hg]
def VG {l:C_}{i:Nat}:∀{b:Nat},b<=l.length->(∀x∈l.take b,x<=i)->li l i=b+li (l.drop b) i:=by
 induction l with
 |nil=>simp_all
 |cons x r ih =>
  intro b hb h
  cases b<;>grind [li]
def akr {l:C_}{i:Nat}:∀x∈l.take (li l i),x<=i:=by
 induction l<;>grind [li]
def arw {l:C_}{i:Nat}:li l i<=l.length:=by
 induction l<;>grind [li]
def Kv (tl:C_)(bks:G_)(i:Nat)(v:Int):Prop:=v=0∨∃k,bks[li tl i]?=some k∧(1<=k∧k<=11)∧v.natAbs<=iB k.toNat
def uZ (tl:C_)(bks:G_):Nat->G_->Prop
 |_,[]=>True
 |i,v::r=>Kv tl bks i v∧uZ tl bks (i+1) r
def abL (c:cS)(hc:c.Fit)(hm:c.info.may 11)(hf:fk c.info.max c.sects)(os:C_)(ho:os.length<=100)(hoI:∀x∈os,x<=1000)(hne:os≠[])(y10 y34 y35:D)(j:Nat)(l:Q_)(rr:H_)(hd:c.sects.drop j=l::rr)(ls:G_)(hls:ls.length<=1000)(hlI:∀v∈ls,i64 v)(hlast:∀i,i<ls.length->∃x∈os.drop 1,i<x)(N:Nat):∀(r:G_) (i b:Nat),ls.drop i=r->b<=(os.drop 1).length->(∀x∈(os.drop 1).take b,x<=i)->
  (uZ (os.drop 1) (aK l) i r∧(Dn prog).code (.loop oM) ⟨[(4,.ptr 0 0),(8,.own false 1 (cN os)),(10,.d y10),(12,A_ j),(14,A_ b),(34,.d y34),(35,.d y35),(54,.d (.lst (aF ls))),(55,A_ ls.length),(56,A_ i)],⟨[(0,.cells c.av)],N⟩⟩ =
   some (.exit 2,⟨[(4,.ptr 0 0),(8,.own false 1 (cN os)),(10,.d y10),(34,.d y34),(35,.d y35)],⟨[(0,.cells c.av)],N⟩⟩))∨
  (¬uZ (os.drop 1) (aK l) i r∧(Dn prog).code (.loop oM) ⟨[(4,.ptr 0 0),(8,.own false 1 (cN os)),(10,.d y10),(12,A_ j),(14,A_ b),(34,.d y34),(35,.d y35),(54,.d (.lst (aF ls))),(55,A_ ls.length),(56,A_ i)],⟨[(0,.cells c.av)],N⟩⟩ =
   some (.ret,⟨[(6,B_ false)],⟨[],N⟩⟩)):=by
 have hmx:=ig hm;have hml:l∈c.sects:=by rw[<-aT j c.sects,hd];simp
 have hbk:=rV (hf l hml) hmx.1;simp only[cS.av];intro r
 induction r with
 |nil =>
  intro i b h hb hx;have hi:=bQ h;refine .inl ⟨trivial,?_⟩;rw[ah iL];simp(disch:=omega)[↓aa]
 |cons v r ih =>
  intro i b h hb hx;have hg:=zu h;have hlt:=cm h;have hvI:=hlI v (by rw[<-aT i ls,h];simp);have c1:((i+1:Nat):Int)=(i:Int)+1:=rfl;by_cases v0:v=0
  .have h5:=ih (i+1) b (bE h) hb λx hx2=>by grind
   rw[c1]at h5;have hL:Kv (os.drop 1) (aK l) i v:=.inl v0;rw[uZ];subst v0;rcases h5 with ⟨e1,e2⟩|⟨e1,e2⟩
   .refine .inl ⟨⟨hL,e1⟩,?_⟩;rw[ah iL,<-e2];simp(disch:=omega)[↓ac,hg]
   .refine .inr ⟨λh=>e1 h.2,?_⟩;rw[ah iL,<-e2];simp(disch:=omega)[↓ac,hg]
  .have hsk:=VG hb hx;have hdd:os.drop (b+1)=(os.drop 1).drop b:=u_;have hex:∃x∈os.drop (b+1),i<x:=by
    grind [List.take_append_drop]
   have h0:=abU os ho (.cells c.av) (.ptr 0 0) (.d (.lst (aF ls))) y10 (.int .i64 j) (.int .i64 v) y34 y35 (.int .i64 ls.length) (.int .i64 i) i o_ hoI ⟨[(0,.cells c.av)],N⟩ (os.drop (b+1)) b rfl hex;rw[hdd,<-hsk]at h0;have hbl:=arw (l:=os.drop 1) (i:=i);have hbt:=akr (l:=os.drop 1) (i:=i);have hol:(os.drop 1).length<=100:=d_;obtain⟨B,hB⟩:∃B,B=li (os.drop 1) i:=⟨_,rfl⟩
   have h5:=ih (i+1) B (bE h) o_ λx hx2=>by grind
   rw[c1]at h5;simp only[cS.av]at h0;rw[uZ];unfold Kv;rw[<-hB]at h0⊢;by_cases hBm:(B:Int)<c.info.max
   .have hBl:B<(aK l).length:=o_;obtain⟨k,hk⟩:∃k,(aK l)[B]?=some k:=⟨_,bx hBl⟩
    have hBk:=aap c.sects hc.sects.1 hc.sects.2 c.info.max o_ hf j B l rr hd k hk;rw[hk];by_cases hk1:1<=k∧k<=11
    .obtain⟨K,rfl⟩:=aA (show 0<=k by omega);have hft:=aok K o_ v hvI;by_cases hfit:v.natAbs<=iB K
     .rw[decide_eq_true hfit]at hft;have hL:v=0∨∃k,some (K:Int)=some k∧(1<=k∧k<=11)∧v.natAbs<=iB k.toNat:=.inr ⟨K,rfl,hk1,by simpa using hfit⟩;rcases h5 with ⟨e1,e2⟩|⟨e1,e2⟩
      .refine .inl ⟨⟨hL,e1⟩,?_⟩;rw[ah iL,<-e2];simp(disch:=omega)[↓ac,↓aa,hg,h0,hBk,hft]
      .refine .inr ⟨λh=>e1 h.2,?_⟩;rw[ah iL,<-e2];simp(disch:=omega)[↓ac,↓aa,hg,h0,hBk,hft]
     .rw[decide_eq_false hfit]at hft;refine .inr ⟨λh=>?_,?_⟩
      .grind
      .rw[ah iL];simp(disch:=omega)[↓ac,↓aa,hg,h0,hBk,hft]
    .have hn:¬((v=0∨∃k',some k=some k'∧(1<=k'∧k'<=11)∧v.natAbs<=iB k'.toNat)∧uZ (os.drop 1) (aK l) (i+1) r):=λh=>by
      grind
     refine .inr ⟨hn,?_⟩;rw[ah iL];by_cases hk0:k<1
     .simp(disch:=omega)[↓ac,↓aa,hg,h0,hBk]
     .simp(disch:=omega)[↓ac,↓aa,hg,h0,hBk]
   .have hBl:(aK l)[B]?=none:=gB o_;refine .inr ⟨λh=>?_,?_⟩
    .grind
    .rw[ah iL];simp(disch:=omega)[↓ac,↓aa,hg,h0]
abbrev dZ:=@List.length_drop
abbrev fL:=@Nat.add_sub_cancel_left
def af1:∀{l:G_}{w:Int},w<l.sum->(∀n∈l,1<=n)->0<=w->kp l w<l.length
 |[],w,h,_,h0=>by grind
 |n::r,w,h,hn,h0=>by
  rw[kp];split
  .simp
  .have:=af1 (l:=r) (w:=w-n) d_ (λm hm=>hn m (.tail _ hm)) (by omega)
   simp_all
def aM.wide (i:aM):Nat:=if i.seq=2 then 32 else 256
def xj (c:cS)(w:Nat):G_:=(c.lines.drop (w*c.info.wide)).take c.info.wide
def vK (c:cS)(w:Nat):Q_:=c.sects.getD (kp c.info.groups w) []
def HG (r:Nat)(c:cS):Nat->Nat->Prop
 |0,_=>True
 |k+1,w=>uZ ((offs r c.info.short).drop 1) (aK (vK c w)) 0 (xj c w)∧HG r c k (w+1)
abbrev R8 (r:Nat)(c:cS):Prop:=c.lines.length=256∧HG r c c.info.many 0
def zM:∀x∈FH,((offs x.1 x.2).drop 1).contains (cond x.2 32 256)=true∧(offs x.1 x.2).all (λy=>decide (y<=1000))=true∧(offs x.1 x.2).length<=64∧1<=(offs x.1 x.2).length:=e_
def acs (rt:Nat)(hrt:rt<=11)(c:cS)(hc:c.Fit)(hm:c.info.may 11)(hs:jn c.info c.sects)(hl:c.lines.length=256)(N:Nat):∀(k w:Nat),w+k=c.info.many->
  (HG rt c k w∧∃H,(Dn prog).code (.loop pt) ⟨[(4,.ptr 0 0),(8,.own false 1 (cN (offs rt c.info.short))),(10,A_ c.info.wide),(34,A_ c.info.many),(35,A_ w)],⟨[(0,.cells c.av)],N⟩⟩=some (.exit 0,⟨[],⟨H,N⟩⟩))∨
  (¬HG rt c k w∧(Dn prog).code (.loop pt) ⟨[(4,.ptr 0 0),(8,.own false 1 (cN (offs rt c.info.short))),(10,A_ c.info.wide),(34,A_ c.info.many),(35,A_ w)],⟨[(0,.cells c.av)],N⟩⟩=some (.ret,⟨[(6,B_ false)],⟨[],N⟩⟩)):=by
 have hmm:c.info.many*c.info.wide=256∧c.info.many<=8∧c.info.wide<=256∧1<=c.info.many:=by grind [aM.many,aM.wide]
 obtain⟨m1,m2,m3,m4⟩:=hmm;obtain⟨o1,o2,o3,o4⟩:=zM (rt,c.info.short) (fh o_);simp only at o1 o2 o3 o4;obtain⟨g1,g2⟩:=dp hm;have hoI:∀x∈offs rt c.info.short,x<=1000:=λx hx=>by simp_all
 have hcond:(cond c.info.short 32 256:Nat)=c.info.wide:=by
  grind [aM.short,aM.wide]
 rw[hcond]at o1;have hlast:∀i,i<c.info.wide->∃x∈(offs rt c.info.short).drop 1,i<x:=λi hi=>⟨c.info.wide,u_,hi⟩
 intro k
 induction k with
 |zero =>
  intro w hw;refine .inl ⟨trivial,[],?_⟩;rw[ah uq];simp(disch:=omega)[↓ac,↓aa]
 |succ k ih =>
  intro w hw;have hG:=Nt c.info hc.info hm w o_ o_;have hgl:=af1 (l:=c.info.groups) (w:=w) o_ (λn hn=>(g1 n hn).1) o_;obtain⟨G,hGe⟩:∃G,G=kp c.info.groups w:=⟨_,rfl⟩
  rw[<-hGe]at hG hgl;have hGs:G<c.sects.length:=o_;have hsa:vK c w=c.sects[G]:=by grind [vK]
  have hd:=dY hGs;have hwl:w*c.info.wide+c.info.wide<=256:=by
   grind
  have hwn:(xj c w).length=c.info.wide:=by unfold xj;rw[cV,dZ];omega
  have hwI:∀v∈xj c w,i64 v:=λv hv=>hc.lineI v (gO (eq hv))
  have h1:=abL c hc hm hs.2 (offs rt c.info.short) o_ hoI d_ (.int .i64 c.info.wide) (.int .i64 c.info.many) (.int .i64 w) G c.sects[G] _ hd (xj c w) o_ hwI (λi hi=>hlast i o_) N (xj c w) 0 0 rfl o_ s_;have h2:=ih (w+1) o_;have c1:((w+1:Nat):Int)=(w:Int)+1:=rfl;have c0:((0:Nat):Int)=0:=rfl;rw[c1]at h2;rw[c0]at h1;rw[hwn]at h1;have hmul:(w:Int)*c.info.wide=((w*c.info.wide:Nat):Int):=o_;have hmul2:((w:Int)+1)*c.info.wide=((w*c.info.wide+c.info.wide:Nat):Int):=d_;have hsl:=agy (h:=[(0,.cells c.av)]) (l:=c.lines) (a:=w*c.info.wide) (b:=w*c.info.wide+c.info.wide) o_ o_ ((w:Int)*c.info.wide) (((w:Int)+1)*c.info.wide) hmul hmul2;rw[fL]at hsl;have hW:((c.lines.drop (w*c.info.wide)).take c.info.wide)=xj c w:=rfl;rw[hW]at hsl;have hlw:=gQ (l:=xj c w);rw[hwn]at hlw;rw[HG,hsa];simp only[cS.av,aM.cells]at h1 h2 hsl hG⊢;rcases h1 with ⟨e1,e2⟩|⟨e1,e2⟩
  .rcases h2 with ⟨f1,H,f2⟩|⟨f1,f2⟩
   .refine .inl ⟨⟨e1,f1⟩,H,?_⟩;rw[ah uq,<-f2];simp(disch:=omega)[↓ac,hG,hsl,hlw,e2]
   .refine .inr ⟨λh=>f1 h.2,?_⟩;rw[ah uq,<-f2];simp(disch:=omega)[↓ac,hG,hsl,hlw,e2]
  .refine .inr ⟨λh=>e1 h.1,?_⟩;rw[ah uq];simp(disch:=omega)[↓ac,hG,hsl,hlw,e2]
def ala (rt:Nat)(hrt:rt<=11)(c:cS)(hc:c.Fit)(hm:c.info.may 11)(hs:jn c.info c.sects):(R8 rt c∧bq prog An [A_ rt,.agg c.av,A_ c.info.many]=some (B_ true))∨(¬R8 rt c∧bq prog An [A_ rt,.agg c.av,A_ c.info.many]=some (B_ false)):=by
 have hof:=AC rt c.info.short;rw[aU afj afN rfl];by_cases hl:c.lines.length=256
 .have h0:=acs rt hrt c hc hm hs hl 1 c.info.many 0 o_;have c0:((0:Nat):Int)=0:=rfl;rw[c0]at h0;have hq:(256:Int).tdiv c.info.many=c.info.wide:=by grind [aM.many,aM.wide]
  have hmm:1<=c.info.many∧c.info.many<=8∧c.info.wide<=256:=by grind [aM.many]
  by_cases hs2:c.info.seq=2
  .have hsh:c.info.short=true:=decide_eq_true hs2;rw[hsh]at hof h0;rcases h0 with ⟨e1,H,e2⟩|⟨e1,e2⟩
   .refine .inl ⟨⟨hl,e1⟩,?_⟩;simp(disch:=omega)[↓ac,hof,hq,e2]
   .refine .inr ⟨λh=>e1 h.2,?_⟩;simp(disch:=omega)[↓ac,hof,hq,e2]
  .have hsh:c.info.short=false:=decide_eq_false hs2;rw[hsh]at hof h0;rcases h0 with ⟨e1,H,e2⟩|⟨e1,e2⟩
   .refine .inl ⟨⟨hl,e1⟩,?_⟩;simp(disch:=omega)[↓ac,↓aa,hof,hq,e2]
   .refine .inr ⟨λh=>e1 h.2,?_⟩;simp(disch:=omega)[↓ac,↓aa,hof,hq,e2]
 .refine .inr ⟨λh=>hl h.1,?_⟩;simp(disch:=omega)[↓ac,↓aa]
abbrev apB:D_:=[.fn Cw [] [.ptr 1 0],.fn Ct [] [.ptr 1 0],.fn CL [] [.ptr 1 0],.fn CE [] [.ptr 1 0,.ptr 2 0],.fn CY [] [.ptr 0 0,.ptr 1 0,.ptr 2 0]]
abbrev xQ (rt:Int)(c:cS):am:=[(0,.cells [A_ rt]),(1,.cells c.av),(2,.cells [A_ c.info.many]),(3,.cells apB)]
def wI (rt:Int)(c:cS)(N i:Nat)(hi:i<5)(F:AV)(hF:apB[i]?=some F)(hF2:firm (firm (firm (share F)))=F)(B:Bool)(hB:b7 (Dn prog) F [] ⟨xQ rt c,N⟩=some (B_ B,⟨xQ rt c,N⟩)) :
  (Dn prog).code (.loop jO) ⟨[(28,.sl 3 0 5),(29,A_ 5),(30,A_ i)],⟨xQ rt c,N⟩⟩ =
  if B=true then (Dn prog).code (.loop jO) ⟨[(28,.sl 3 0 5),(29,A_ 5),(30,A_ ((i+1:Nat):Int))],⟨xQ rt c,N⟩⟩ else some (.ret,⟨[(4,A_ 8)],⟨xQ rt c,N⟩⟩):=by
 have c1:((i+1:Nat):Int)=(i:Int)+1:=rfl;obtain⟨hlt,e⟩:=aH.1 hF;rw[c1,ah IC]
 cases B with
 |true =>
  simp(disch:=omega)[↓ac,↓aa,e,hF2,hB]
 |false =>
  simp(disch:=omega)[↓ac,↓aa,e,hF2,hB]
def ath (rt:Int)(c:cS)(N:Nat):(Dn prog).call Cw [.ptr 1 0] ⟨xQ rt c,N⟩=some (B_ (decide (0<=c.gain∧c.gain<=255)),⟨xQ rt c,N⟩):=by
 rw[ba ZC YB rfl];by_cases h1:0<=c.gain
 .by_cases h2:c.gain<=255
  .rw[decide_eq_true ⟨h1,h2⟩];simp(disch:=omega)[↓ac,↓aa]
  .rw[decide_eq_false (λh=>h2 h.2)];simp(disch:=omega)[↓ac,↓aa]
 .rw[decide_eq_false (λh=>h1 h.1)];simp(disch:=omega)[↓ac,↓aa]
def atD (rt:Int)(c:cS)(N:Nat)(B:Bool)(h:bq prog AY [.agg c.av]=some (B_ B)):(Dn prog).call Ct [.ptr 1 0] ⟨xQ rt c,N⟩=some (B_ B,⟨xQ rt c,N⟩):=by
 rw[ba ZU YR rfl];simp(disch:=omega)[h]
def atk (rt:Int)(c:cS)(N:Nat)(B:Bool)(h:bq prog Hm [.agg c.av]=some (B_ B)):(Dn prog).call CL [.ptr 1 0] ⟨xQ rt c,N⟩=some (B_ B,⟨xQ rt c,N⟩):=by
 rw[ba aab ZJ rfl];simp(disch:=omega)[h]
def auI (rt:Int)(c:cS)(N:Nat)(B:Bool)(h:bq prog Dh [.agg c.av,A_ c.info.many]=some (B_ B)):(Dn prog).call CE [.ptr 1 0,.ptr 2 0] ⟨xQ rt c,N⟩=some (B_ B,⟨xQ rt c,N⟩):=by
 rw[ba Z5 Y6 rfl];simp(disch:=omega)[h]
def ajG (rt:Int)(c:cS)(N:Nat)(B:Bool)(h:bq prog An [A_ rt,.agg c.av,A_ c.info.many]=some (B_ B)):(Dn prog).call CY [.ptr 0 0,.ptr 1 0,.ptr 2 0] ⟨xQ rt c,N⟩=some (B_ B,⟨xQ rt c,N⟩):=by
 rw[ba YU Zy rfl];simp(disch:=omega)[h]
structure lL (r:Nat)(c:cS):Prop where
 gain:0<=c.gain∧c.gain<=255
 info:c.info.may r
 sects:jn c.info c.sects
 steps:zi c.gain c.sects c.steps
 tns:Ri c.info c.tns
 lines:R8 r c
def Le {f:FuncId}{caps:D_}{h:am}{N:Nat}:b7 (Dn prog) (.fn f [] caps) [] ⟨h,N⟩=(Dn prog).call f caps ⟨h,N⟩:=s_
def Mo (rt:Int)(c:cS)(hc:c.Fit):(dP rt∧lL rt.toNat c∧bq prog iS [A_ rt,.agg c.av]=some (A_ 0))∨
  (dP rt∧¬lL rt.toNat c∧bq prog iS [A_ rt,.agg c.av]=some (A_ 8))∨(¬dP rt∧bq prog iS [A_ rt,.agg c.av]=some (A_ 2)):=by
 have hi:=wT rt c.info hc.info;have hw:=nQ c.info hc.info;simp only[aM.cells]at hi hw;by_cases hr:dP rt
 .rw[ac hr]at hi;by_cases hm:c.info.may rt.toNat
  .rw[ac hm]at hi;have hm11:=fG o_ hm;rw[ac hm11]at hw;have hmm:c.info.many<=8:=by grind [aM.many]
   have cI:(rt.toNat:Int)=rt:=o_;have c0:((0:Nat):Int)=0:=rfl;have fin:∀(e:Int) (X:J_),(Dn prog).code (.loop jO) ⟨[(28,.sl 3 0 5),(29,A_ 5),(30,A_ ((0:Nat):Int))],⟨xQ rt c,4⟩⟩=X->(X=some (.exit 0,⟨[],⟨xQ rt c,4⟩⟩)∧e=0∨X=some (.ret,⟨[(4,A_ 8)],⟨xQ rt c,4⟩⟩)∧e=8)->bq prog iS [A_ rt,.agg c.av]=some (A_ e):=by
    intro e X h hX;rw[c0]at h;simp only[xQ,apB,cS.av]at h hX;rw[aU Hi Ia rfl];rcases hX with ⟨rfl,rfl⟩|⟨rfl,rfl⟩
    .simp(disch:=omega)[↓ac,↓aa,hi,hw,IY,h]
    .simp(disch:=omega)[↓ac,↓aa,hi,hw,IY,h]
   have s1:=wI rt c 4 0 o_ _ rfl rfl _ (Le.trans (ath rt c 4));by_cases b1:0<=c.gain∧c.gain<=255
   .rw[ac (decide_eq_true b1)]at s1;have s2:=wI rt c 4 (0+1) o_ _ rfl rfl _ (Le.trans (atD rt c 4 _ (ab1 c hc hm11)));rw[s2]at s1;by_cases b2:jn c.info c.sects
    .rw[ac (decide_eq_true b2)]at s1;have s3:=wI rt c 4 (0+1+1) o_ _ rfl rfl _ (Le.trans (atk rt c 4 _ (aln c hc hm11 b1 b2)));rw[s3]at s1;by_cases b3:zi c.gain c.sects c.steps
     .rw[ac (decide_eq_true b3)]at s1;have s4:=wI rt c 4 (0+1+1+1) o_ _ rfl rfl _ (Le.trans (auI rt c 4 _ (aga c hc c.info.many hmm)));rw[s4]at s1;by_cases b4:Ri c.info c.tns
      .rw[ac (decide_eq_true b4)]at s1;have hL:=ala rt.toNat o_ c hc hm11 b2;rw[cI]at hL;rcases hL with ⟨b5,h5⟩|⟨b5,h5⟩
       .have s5:=wI rt c 4 (0+1+1+1+1) o_ _ rfl rfl _ (Le.trans (ajG rt c 4 _ h5));rw[s5]at s1;have s6:(Dn prog).code (.loop jO) ⟨[(28,.sl 3 0 5),(29,A_ 5),(30,A_ ((0+1+1+1+1+1:Nat):Int))],⟨xQ rt c,4⟩⟩=some (.exit 0,⟨[],⟨xQ rt c,4⟩⟩):=by
         have c5:((0+1+1+1+1+1:Nat):Int)=5:=rfl;rw[c5,ah IC];simp(disch:=omega)[↓aa]
        rw[s6]at s1;exact .inl ⟨hr,⟨b1,hm,b2,b3,b4,b5⟩,fin 0 _ s1 (.inl ⟨rfl,rfl⟩)⟩
       .have s5:=wI rt c 4 (0+1+1+1+1) o_ _ rfl rfl _ (Le.trans (ajG rt c 4 _ h5))
        grind [lL.lines]
      grind [lL.tns]
     grind [lL.steps]
    grind [lL.sects]
   grind [lL.gain]
  .refine .inr (.inl ⟨hr,λh=>hm h.info,?_⟩);rw[aU Hi Ia rfl];simp(disch:=omega)[↓ac,↓aa,hi]
 .refine .inr (.inr ⟨hr,?_⟩);rw[aU Hi Ia rfl];simp(disch:=omega)[↓ac,↓aa,hi]
def aBC {n:Int}{k P:Nat}(hP:2 ^ k=P)(hk:k<=62):fg .and (A_ n) (A_ ((P:Int)-1))=some (.int .i64 (n % P)):=by
 have h1:2 ^ k<=2 ^ 62:=aw o_ hk;have h2:=bM k;have hd:(P:Int) ∣ 18446744073709551616:=by
  subst hP;have:(2:Nat) ^ k ∣ 2 ^ 64:=Nat.pow_dvd_pow 2 o_;have:=Int.natCast_dvd_natCast.2 this;simpa using this
 have e0:0<=n % 18446744073709551616:=Int.emod_nonneg _ o_;have e1:n % 18446744073709551616 % P=n % P:=Int.emod_emod_of_dvd n hd;refine tQ ?_;rw[l7 s_ s_];have c:(P:Int)-1=((P-1:Nat):Int):=o_;rw[c];simp only[js,GA,BitVec.toNat_and,Kd (show P-1<oF .i64 by simp[oF,IntKind.signed];omega)];have e2:((2 ^ IntKind.i64.bits:Nat):Int)=18446744073709551616:=rfl;rw[BitVec.toNat_ofInt,e2];subst hP;rw[mt];have h3:(n % 18446744073709551616).toNat % 2 ^ k<2 ^ k:=dO _ h2;rw[alD (by simp[oF,IntKind.signed];omega),Int.natCast_emod];have e3:(((n % 18446744073709551616).toNat:Nat):Int)=n % 18446744073709551616:=o_;rw[e3,e1]
def aa8 {hp:AV->am}{p N:Nat}(H:Hv hp p){b:C_}(hb:b.length<=900000000)(n:Int)(s:Nat)(hs:s<=31)(hn:i64 n)(sI:Int)(es:sI=s) :
  (Dn prog).call pi [A_ n,A_ sI,.ptr p 0] ⟨hp (.own false 1 (ak b)),N⟩=some (.tup [],⟨hp (.own false 1 (ak (b++au (n % ((2 ^ s:Nat):Int)).toNat s))),N⟩):=by
 subst es;have h31:2 ^ s<=2 ^ 31:=aw o_ hs;have h2:=bM s;have q1:=RX (m:=s) o_;have q2:=aBC (n:=n) (k:=s) rfl o_;have e0:0<=n % ((2 ^ s:Nat):Int):=Int.emod_nonneg _ o_;have e1:n % ((2 ^ s:Nat):Int)<((2 ^ s:Nat):Int):=Int.emod_lt_of_pos _ o_;have h1:=mp b (n % ((2 ^ s:Nat):Int)) s hb o_ _ (.inl rfl);rw[ac (by simp only[qt,aq];omega)]at h1;simp only[aq]at h1;generalize n % ((2 ^ s:Nat):Int)=Q at *;generalize 2 ^ s=P at *;rw[ba Ya Xo rfl];simp(maxSteps:=300000) (disch:=omega)[H.get,H.put,-qZ,q1,q2,h1]
def fy (f:ca):Bool:=decide (∀c∈f.coefs,-(dw f.fine / 2)<=c∧c<dw f.fine / 2)
def fq (fine:Bool):Nat:=if fine then 4 else 3
def dJ (b:Bool):Nat:=if b then 1 else 0
def sP (f:ca):Nat:=fq f.fine-dJ (fy f)
def oT (w:Nat)(l:G_):C_:=l.flatMap λc=>au (c % ((2 ^ w:Nat):Int)).toNat w
def bL (sh:Bool):Nat:=if sh then 4 else 6
def bK (sh:Bool):Nat:=if sh then 3 else 5
def ej (sh:Bool):Nat:=if sh then 1 else 2
def rF (sh:Bool)(f:ca):C_:=au f.len.toNat (bL sh)++(au f.order.toNat (bK sh)++if f.order=0 then [] else au (dJ f.down) 1++(au (dJ (fy f)) 1++oT (sP f) f.coefs))
def yU (sh:Bool)(l:AA_):C_:=au l.length (ej sh)++match l with
 |[]=>[]
 |f0::_=>au (dJ f0.fine) 1++l.flatMap (rF sh)
def jg (sh:Bool)(t:O_):C_:=t.flatMap (yU sh)
abbrev TI (sh:Bool)(v:AV):am:=[(0,.cells [v]),(2,.cells (lJ sh))]
abbrev U0 (full:O_)(i:Int)(r:aV):aV:=(3,.ptr 0 0)::(9,.fn pi [] [.ptr 0 0])::(10,.ptr 2 0)::(30,.d (.lst (cX full)))::(31,A_ full.length)::(32,A_ i)::r
def apZ (sh:Bool):Hv (TI sh) 0:=⟨λv=>by simp,λv w=>by simp⟩
theorem Yk {w:Nat}:∀{l:G_},(oT w l).length=w*l.length
 |[]=>by simp[oT]
 |c::r=>by
  have:=Yk (w:=w) (l:=r);rw[oT]at this⊢;rw[aG,al,dq,ar,this,Nat.mul_add];omega
def avK (sh:Bool)(full:O_)(i:Int)(l:AA_)(k:Int)(nw:Bool)(w:Nat)(hw:1<=w-dJ nw∧w<=4)(cs:G_)(hcs:cs.length<=100)(hcI:∀c∈cs,i64 c)(N:Nat):∀(r:G_) (j:Nat) (b:C_),cs.drop j=r->b.length+4*r.length<=900000000->
  (Dn prog).code (.loop sH) ⟨(3,.ptr 0 0)::(9,.fn pi [] [.ptr 0 0])::(10,.ptr 2 0)::(15,A_ w)::(16,B_ nw)::(30,.d (.lst (cX full)))::(31,A_ full.length)::(32,A_ i)::[(52,.d (.lst (eh l))),(53,A_ l.length),(54,A_ k),(91,.d (.lst (aF cs))),(92,A_ cs.length),(93,A_ j)],⟨TI sh (.own false 1 (ak b)),N⟩⟩ =
  some (.exit 4,⟨U0 full i [(52,.d (.lst (eh l))),(53,A_ l.length),(54,A_ k)],⟨TI sh (.own false 1 (ak (b++oT (w-dJ nw) r))),N⟩⟩):=by
 intro r
 induction r with
 |nil =>
  intro j b hd hb;have hi:=bQ hd;rw[ah HO];simp(maxSteps:=300000) (disch:=omega)[↓aa,oT]
 |cons c r ih =>
  intro j b hd hb;simp only[ar]at hb;have hg:=zu hd;have hlt:=cm hd;have hcc:=hcI c (by rw[<-aT j cs,hd];simp);have hbit:=Dy nw;have hbI:((dJ nw:Nat):Int)=if nw=true then 1 else 0:=by cases nw<;>rfl
  rw[<-hbI]at hbit;have hbb:dJ nw<=1:=by cases nw<;>decide
  have hp:=aa8 (apZ sh) (N:=N) (b:=b) o_ c (w-dJ nw) o_ hcc ((w:Int)-dJ nw) o_;have h5:=ih (j+1) (b++au (c % ((2 ^ (w-dJ nw):Nat):Int)).toNat (w-dJ nw)) (bE hd) g_;have c1:((j+1:Nat):Int)=(j:Int)+1:=rfl;have ea:b++oT (w-dJ nw) (c::r)=b++au (c % ((2 ^ (w-dJ nw):Nat):Int)).toNat (w-dJ nw)++oT (w-dJ nw) r:=by rw[oT,aG,ay];rfl
  rw[c1]at h5;rw[ea,<-h5,ah HO];simp(maxSteps:=300000) (disch:=omega)[↓ac,hg,hbit,hp]
abbrev jm:=@Int.emod_eq_of_lt
@[simp] def aCT {sh:Bool}:(lJ sh)[0]?=some (A_ (ej sh:Int)):=by cases sh<;>rfl
@[simp] def aDF {sh:Bool}:(lJ sh)[1]?=some (A_ (bL sh:Int)):=by cases sh<;>rfl
@[simp] def aC5 {sh:Bool}:(lJ sh)[2]?=some (A_ (bK sh:Int)):=by cases sh<;>rfl
@[simp] def azg {sh:Bool}:(lJ sh).map nU=lJ sh:=by cases sh<;>rfl
def zA {hp:AV->am}{p N:Nat}(H:Hv hp p){b:C_}(hb:b.length<=900000000)(n:Int)(s:Nat)(hs:s<=31)(h0:0<=n)(h1:n.toNat<2 ^ s)(m:Nat)(hm:m=n.toNat)(sI:Int)(es:sI=s) :
  (Dn prog).call pi [A_ n,A_ sI,.ptr p 0] ⟨hp (.own false 1 (ak b)),N⟩=some (.tup [],⟨hp (.own false 1 (ak (b++au m s))),N⟩):=by
 have h31:2 ^ s<=2 ^ 31:=aw o_ hs;have h:=aa8 H (N:=N) hb n s hs o_ sI es
 simp_all [jm]
abbrev avY (sh:Bool)(N:Nat)(f:ca)(v:AV):am:=[(0,.cells [v]),(2,.cells (lJ sh)),(N,.cells f.av)]
def ac2 (sh:Bool)(N:Nat)(hN:3<=N)(f:ca):Hv (avY sh N f) 0:=⟨λv=>by simp,λv w=>by simp⟩
def Tq (f:ca):1<=sP f∧fq f.fine<=4∧3<=fq f.fine∧dJ (fy f)<=1:=by
 grind [sP,fq,dJ]
theorem awJ (sh:Bool)(full:O_)(i:Int)(l:AA_)(hl:l.length<=100)(k N:Nat)(hN:3<=N)(f:ca)(r:AA_)(hd:l.drop k=f::r)(hf:Ak sh f)(hcI:∀c∈f.coefs,i64 c)(b:C_)(hb:b.length<=800000000) :
  (Dn prog).code nv ⟨U0 full i [(52,.d (.lst (eh l))),(53,A_ l.length),(54,A_ k)],⟨TI sh (.own false 1 (ak b)),N⟩⟩ =
  some (.normal,⟨U0 full i [(52,.d (.lst (eh l))),(53,A_ l.length),(54,A_ ((k+1:Nat):Int))],⟨TI sh (.own false 1 (ak (b++rF sh f))),N+1⟩⟩):=by
 have hg:=GC hd;have hlt:=cm hd;obtain⟨⟨l1,l2⟩,⟨o1,o2⟩,c1,d1,c2⟩:=hf;have hlw:yK sh<2 ^ bL sh∧bL sh<=6∧u7 sh<2 ^ bK sh∧bK sh<=5∧u7 sh<=12:=by cases sh<;>decide
 obtain⟨w1,w2,w3,w4,w5⟩:=hlw;have wN1:((2 ^ bL sh:Nat):Int)=2 ^ bL sh:=s_;have wN2:((2 ^ bK sh:Nat):Int)=2 ^ bK sh:=s_;have p1:=zA (ac2 sh N hN f) (N:=N+1) (b:=b) o_ f.len (bL sh) o_ l1 o_ f.len.toNat rfl (bL sh) rfl;have p2:=zA (ac2 sh N hN f) (N:=N+1) (b:=b++au f.len.toNat (bL sh)) g_ f.order (bK sh) o_ o1 o_ f.order.toNat rfl (bK sh) rfl;have n0:N≠0∧N≠1∧N≠2:=o_;obtain⟨n0,n1,n2⟩:=n0;have c9:((k+1:Nat):Int)=(k:Int)+1:=rfl;rw[c9,H3];by_cases h0:f.order=0
 .have e:b++rF sh f=b++au f.len.toNat (bL sh)++au f.order.toNat (bK sh):=by grind [rF]
  rw[e];generalize b++au f.len.toNat (bL sh)++au f.order.toNat (bK sh)=B2 at *;generalize b++au f.len.toNat (bL sh)=B1 at *;simp only[avY,ca.av]at p1 p2;simp(disch:=omega)[↓ac,↓aa,hg,p1,p2]
 .have hw:=Ib f.fine;obtain⟨q1,q2,q3,q4⟩:=Tq f;have hcl:f.coefs.length<=100:=o_;have hft:=Jt f.coefs o_ (fq f.fine-1) o_;have hh:((2 ^ (fq f.fine-1-1):Nat):Int)=dw f.fine / 2:=by unfold fq dw;grind
  have hwI:(if f.fine=true then (4:Int) else 3)=(fq f.fine:Int):=by grind [fq]
  have hwS:((fq f.fine-1:Nat):Int)=(fq f.fine:Int)-1:=o_;have hnr:decide (∀c∈f.coefs,-(dw f.fine / 2)<=c∧c<dw f.fine / 2)=fy f:=rfl;rw[hh,hnr,hwS]at hft;rw[hwI]at hw;have hb1:=Dy f.down;have hb2:=Dy (fy f);have e1:(if f.down=true then (1:Int) else 0)=(dJ f.down:Int):=by cases f.down<;>rfl
  have e2:(if fy f=true then (1:Int) else 0)=(dJ (fy f):Int):=by cases fy f<;>rfl
  rw[e1]at hb1;rw[e2]at hb2;have hbd:dJ f.down<=1:=o_;have p3:=zA (ac2 sh N hN f) (N:=N+1) (b:=b++au f.len.toNat (bL sh)++au f.order.toNat (bK sh)) g_ (dJ f.down) 1 o_ o_ o_ (dJ f.down) s_ 1 rfl;have p4:=zA (ac2 sh N hN f) (N:=N+1) (b:=b++au f.len.toNat (bL sh)++au f.order.toNat (bK sh)++au (dJ f.down) 1) g_ (dJ (fy f)) 1 o_ o_ o_ (dJ (fy f)) s_ 1 rfl;have p5:=avK sh full i l k (fy f) (fq f.fine) o_ f.coefs hcl hcI (N+1) f.coefs 0 (b++au f.len.toNat (bL sh)++au f.order.toNat (bK sh)++au (dJ f.down) 1++au (dJ (fy f)) 1) rfl g_;have c0:((0:Nat):Int)=0:=rfl;have hlc:=gQ (l:=f.coefs);have e:b++rF sh f=b++au f.len.toNat (bL sh)++au f.order.toNat (bK sh)++au (dJ f.down) 1++au (dJ (fy f)) 1++oT (fq f.fine-dJ (fy f)) f.coefs:=by
   rw[rF,aa h0];simp only[ay];rfl
  rw[c0]at p5;rw[e];generalize b++au f.len.toNat (bL sh)++au f.order.toNat (bK sh)++au (dJ f.down) 1++au (dJ (fy f)) 1=B4 at *;generalize b++au f.len.toNat (bL sh)++au f.order.toNat (bK sh)=B2 at *;simp(disch:=omega)[↓ac,↓aa,hg,p1,p2,p3,p4,p5,hw,hft,hb1,hb2,hlc]
theorem aej {sh:Bool}{f:ca}(hf:Ak sh f):(rF sh f).length<=100:=by
 obtain⟨⟨l1,l2⟩,⟨o1,o2⟩,c1,d1,c2⟩:=hf;have hlw:bL sh<=6∧bK sh<=5∧u7 sh<=12:=by cases sh<;>decide
 obtain⟨q1,q2,q3,q4⟩:=Tq f;have hcw:sP f<=4:=by unfold sP;omega
 have h1:sP f*f.coefs.length<=4*f.coefs.length:=bU _ hcw
 grind [rF,dq,Yk]
def am1 (sh:Bool)(full:O_)(i:Int)(l:AA_)(hl:l.length<=100):∀(r:AA_) (k N:Nat) (b:C_),l.drop k=r->3<=N->(∀f∈r,Ak sh f∧∀c∈f.coefs,i64 c)->b.length+100*r.length<=800000000->
  ∃M,3<=M∧(Dn prog).code (.loop nv) ⟨U0 full i [(52,.d (.lst (eh l))),(53,A_ l.length),(54,A_ k)],⟨TI sh (.own false 1 (ak b)),N⟩⟩ =
  some (.exit 2,⟨U0 full i [],⟨TI sh (.own false 1 (ak (b++r.flatMap (rF sh)))),M⟩⟩):=by
 intro r
 induction r with
 |nil =>
  intro k N b hd hN hr hb;have hi:=bQ hd;refine⟨N,hN,?_⟩;rw[ah H3,fR,be];simp(disch:=omega)[↓aa]
 |cons f r ih =>
  intro k N b hd hN hr hb;obtain⟨h1,h2⟩:=hr f (.head _);have h3:=aej h1;obtain⟨M,hM,e⟩:=ih (k+1) (N+1) (b++rF sh f) (bE hd) o_ (λq hq=>hr q (.tail _ hq)) (by grind)
  grind [ah,awJ,La]
def Yq {sh:Bool}{l:AA_}(h:sS sh l):(yU sh l).length<=1000:=by
 have hm:pC sh<=3∧ej sh<=2:=by cases sh<;>decide
 have h1:=h.1;unfold yU;rw[al,dq]
 cases l with
 |nil=>grind
 |cons f0 r =>
  have h2:=h.2 f0 s_;have:∀q:AA_,(∀f∈q,Ak sh f)->(q.flatMap (rF sh)).length<=100*q.length:=by
   intro q
   induction q<;>grind [aej]
  grind [dq]
def awE (i:aM)(full:O_)(hl:full.length<=1000):∀(r:O_) (j N:Nat) (b:C_),full.drop j=r->3<=N->(∀l∈r,sS i.short l∧∀f∈l,∀c∈f.coefs,i64 c)->b.length+1000*r.length<=700000000->
  ∃M,(Dn prog).code (.loop r7) ⟨U0 full j [],⟨TI i.short (.own false 1 (ak b)),N⟩⟩ =
  some (.exit 0,⟨[(3,.ptr 0 0)],⟨[(0,.cells [.own false 1 (ak (b++jg i.short r))])],M⟩⟩):=by
 intro r
 induction r with
 |nil =>
  intro j N b hd hN hr hb;have hi:=bQ hd;refine⟨N,?_⟩;rw[ah yY,jg,fR,be];simp(disch:=omega)[↓aa]
 |cons l r ih =>
  intro j N b hd hN hr hb;simp only[ar]at hb;have hg:=I8 hd;have hlt:=cm hd;obtain⟨h1,h2⟩:=hr l (.head _);have hwl:=Yq h1;have hm:pC i.short<=3∧ej i.short<=2∧pC i.short<2 ^ ej i.short:=by cases i.short<;>decide
  obtain⟨m1,m2,m3⟩:=hm;have hll:=h1.1;have p1:=zA (apZ i.short) (N:=N) (b:=b) o_ l.length (ej i.short) o_ o_ o_ l.length s_ (ej i.short) rfl;have c1:((j+1:Nat):Int)=(j:Int)+1:=rfl;have c0:((0:Nat):Int)=0:=rfl
  cases l with
  |nil =>
   have eb:yU i.short []=au 0 (ej i.short):=by simp[yU]
   obtain⟨M2,hM2,p2⟩:=am1 i.short full j [] s_ [] 0 N (b++yU i.short []) rfl hN s_ d_;obtain⟨M,e⟩:=ih (j+1) M2 (b++yU i.short []) (bE hd) hM2 (λq hq=>hr q (.tail _ hq)) d_;refine⟨M,?_⟩;have ea:b++jg i.short ([]::r)=b++yU i.short []++jg i.short r:=by grind [jg]
   rw[eb]at ea e p2;simp only[bD,fR,be]at p1 p2;rw[c1]at e;rw[c0]at p1 p2;have n0:eh []=[]:=rfl;rw[n0]at hg p2;rw[ea];generalize b++au 0 (ej i.short)++jg i.short r=BB at *;generalize b++au 0 (ej i.short)=B1 at *;simp only[TI]at p1 p2 e⊢;rw[<-e,ah yY];simp(disch:=omega)[↓ac,↓aa,hg,p1,p2]
  |cons f0 r0 =>
   have hgf:=GC (l:=f0::r0) (i:=0) (s:=f0) (r:=r0) rfl;have hb1:=Dy f0.fine;have e1:(if f0.fine=true then (1:Int) else 0)=(dJ f0.fine:Int):=by cases f0.fine<;>rfl
   rw[e1]at hb1;have hbd:dJ f0.fine<=1:=o_;have hok:∀f∈f0::r0,Ak i.short f∧∀c∈f.coefs,i64 c:=λf hf=>⟨(h1.2 f0 s_ f hf).1,h2 f hf⟩
   have p2:=zA (apZ i.short) (N:=N) (b:=b++au (f0::r0).length (ej i.short)) g_ (dJ f0.fine) 1 o_ o_ o_ (dJ f0.fine) s_ 1 rfl;obtain⟨M2,hM2,p3⟩:=am1 i.short full j (f0::r0) o_ (f0::r0) 0 N (b++au (f0::r0).length (ej i.short)++au (dJ f0.fine) 1) rfl hN hok (by grind [dq]);have eb:b++au (f0::r0).length (ej i.short)++au (dJ f0.fine) 1++(f0::r0).flatMap (rF i.short)=b++yU i.short (f0::r0):=by grind [yU]
   obtain⟨M,e⟩:=ih (j+1) M2 (b++yU i.short (f0::r0)) (bE hd) hM2 (λq hq=>hr q (.tail _ hq)) d_;refine⟨M,?_⟩;have ea:b++jg i.short ((f0::r0)::r)=b++yU i.short (f0::r0)++jg i.short r:=by grind [jg]
   have hll2:1<=(f0::r0).length:=s_;rw[eb]at p3;rw[c1]at e;rw[c0]at p3;rw[ea];generalize b++au (f0::r0).length (ej i.short)++au (dJ f0.fine) 1=B2 at *;generalize hLL:(f0::r0).length=LL at *;have hfl:(eh (f0::r0)).length=LL:=u_;obtain⟨hgl,hge⟩:=aH.1 hgf;rw[<-e,ah yY];simp(disch:=omega)[↓ac,↓aa,hg,hge,hfl,hb1,p1,p2,p3]
def ahl (i:aM)(f0:ca)(l:AA_)(f:ca)(hf:Ak i.short f∧f.fine=f0.fine)(H:am)(p q M:Nat)(hp:get H p=some (.cells i.cells))(hq:get H q=some (.cells [.d (.lst (eh (f0::l)))]))(hl:(f0::l).length<=1000000)(hM:Lt H M) :
  (Dn prog).call mJ [.agg f.av,.ptr p 0,.ptr q 0] ⟨H,M⟩=some (B_ false,⟨H,M+1⟩):=by
 have e1:=λo=>tR (o:=o) hM
 have e2:=λo=>wC (o:=o) hM
 have e3:=λo=>zh (N:=M) (o:=o) hp
 have e4:=λo=>zh (N:=M) (o:=o) hq
 have e5:=λo=>Lo (o:=o) hM
 have e6:=abV i f hf.1;have hfn:=hf.2;have hg:=GC (l:=f0::l) (i:=0) (s:=f0) (r:=l) rfl;rw[ba Si Sj rfl];simp only[ca.av,aM.cells]at e3 e6⊢
 cases hf2:f0.fine<;>rw[hf2]at hg hfn<;>rw[hfn]at e6⊢<;>
  simp(disch:=omega)[e1,e2,e3,e4,e5,e6,hg]
def agp (i:aM)(full:O_)(hl:full.length<=1000):∀(r:O_) (j N:Nat) (H:am),full.drop j=r->get H 0=some (.cells i.cells)->Lt H N->1<=N->(∀l∈r,sS i.short l)->
  ∃H2 M,(Dn prog).code (.loop pe) ⟨[(2,.ptr 0 0),(21,.d (.lst (cX full))),(22,A_ full.length),(23,A_ j)],⟨H,N⟩⟩=some (.exit 0,⟨[],⟨H2,M⟩⟩):=by
 intro r
 induction r with
 |nil =>
  intro j N H hd hH hL hN hr;have hi:=bQ hd;refine⟨H,N,?_⟩;rw[ah DW];simp(disch:=omega)[↓aa]
 |cons l r ih =>
  intro j N H hd hH hL hN hr;have hg:=I8 hd;have hlt:=cm hd;have hW:=hr l (.head _);have hm:pC i.short<=3:=by cases i.short<;>decide
  have hll:=hW.1;have e1:=λo=>tR (o:=o) hL
  have e2:=λo=>wC (o:=o) hL
  have e3:=λo=>zh (N:=N) (o:=o) hH
  have e4:=λo o'=>Gb (o:=o) (o':=o') hL
  have hsz:=yb i;have hix:ixV 5 1 false (.agg (lJ i.short)) (A_ 3)=some (A_ (pC i.short:Int)):=by cases i.short<;>rfl
  have hcf:∃M,N+1<=M∧(Dn prog).call fo [.d (.lst (eh l)),.fn mJ [] [.ptr 0 0,.ptr N 0]] ⟨H++[(N,.cells [.d (.lst (eh l))])],N+1⟩=some (B_ false,⟨H++[(N,.cells [.d (.lst (eh l))])],M⟩):=by
   have h:=Do (.fn mJ [] [.ptr 0 0,.ptr N 0]) (λ_=>false) l o_ (H++[(N,.cells [.d (.lst (eh l))])]) (N+1) rfl rfl λf hf M hM=>by
    cases l with
    |nil=>simp at hf
    |cons f0 r0 =>
     have:=ahl i f0 r0 f (hW.2 f0 s_ f hf) (H++[(N,.cells [.d (.lst (eh (f0::r0)))])]) 0 N M (e3 _) (e2 _) o_ (IL (Lg hL) hM)
     simp_all
   grind
  obtain⟨M,hM,e5⟩:=hcf;obtain⟨H2,M2,f2⟩:=ih (j+1) M (H++[(N,.cells [.d (.lst (eh l))])]) (bE hd) (e3 _) (IL (Lg hL) hM) o_ (λq hq=>hr q (.tail _ hq));refine⟨H2,M2,?_⟩;simp only[aM.cells]at e3 hsz;rw[ah DW,<-f2];simp(disch:=omega)[↓ac,↓aa,hg,e1,e2,e3,e4,e5,hsz,hix]
def acC (i:aM)(hi:i.Fit)(hm:i.may 11)(t:O_)(ht:Ri i t):bq prog Ix [.agg i.cells,.d (.lst (cX t))]=some (A_ 0):=by
 have hw:=nQ i hi;have hmm:i.many<=8:=by grind [aM.many]
 obtain⟨H2,M,e⟩:=agp i t o_ t 0 1 [(0,.cells i.cells)] rfl s_ (λp hp=>by simp_all) o_ ht.2;have c0:((0:Nat):Int)=0:=rfl;rw[c0]at e;simp only[aM.cells]at hw e;rw[aU Xz V2 rfl];simp(disch:=omega)[↓ac,hw,e]
def ahm (b:C_)(hb:b.length<=600000000)(x:AV)(hx:x=.d (.lst (ak b))∨x=.nl∧b=[])(i:aM)(hi:i.Fit)(hm:i.may 11)(t:O_)(ht:Ri i t)(htI:∀l∈t,∀f∈l,∀c∈f.coefs,i64 c):bq prog Fm [x,.agg i.cells,.d (.lst (cX t))] =
  some (.tup [.own true 1 (ak (b++jg i.short t)),A_ 0]):=by
 have hc:=acC i hi hm t ht;have hmm:i.many<=8:=by grind [aM.many]
 obtain⟨M,e⟩:=awE i t o_ t 0 3 b rfl o_ (λl hl=>⟨ht.2 l hl,htI l hl⟩) o_;have hcl:bq prog mR [x]=some (.own true 1 (ak b)):=by
  refine K5 x b o_ ?_;rcases hx with rfl|⟨rfl,rfl⟩<;>rfl
 have hsz:=yb i;have hl5:(lJ i.short).length=5:=by cases i.short<;>rfl
 have hall:(lJ i.short).all bu=true:=by cases i.short<;>rfl
 have hfm:(lJ i.short).map nU=lJ i.short:=u_;have c0:((0:Nat):Int)=0:=rfl;rw[c0]at e;simp only[aM.cells,TI,U0]at hc e hsz;rw[aU acH abO rfl];rcases hx with rfl|⟨rfl,rfl⟩
 .simp(disch:=omega)[↓ac,↓aa,hc,hcl,hsz,hl5,hall,hfm,e]
 .simp(disch:=omega)[↓ac,↓aa,hc,hcl,hsz,hl5,hall,hfm,e]
def aum (id:Nat):bq prog Pg [A_ id]=some (A_ (bB id)):=by
 rw[aU amR am8 rfl];unfold bB;by_cases h:id<5
 .simp(disch:=omega)[↓ac]
 .simp(disch:=omega)[↓aa]
def qY (d hi:Nat):Nat->Nat->C_
 |0,_=>[]
 |f+1,x=>if x<hi then x::qY d hi f (x+d) else []
def pY (os:C_)(d b:Nat):Nat->Nat->C_
 |0,_=>[]
 |k+1,w=>(qY d (nth os (b+1)) 300 (nth os b)).map (λx=>w*32+x)++pY os d b k (w+1)
def xE (os:C_)(d n first:Nat):Nat->Nat->C_
 |0,_=>[]
 |k+1,b=>pY os d b n first++xE os d n first k (b+1)
def zS (os:C_)(n first:Nat):Q_->Nat->R_
 |[],_=>[]
 |s::r,b=>(if s.book=0∨s.book=13 then [] else (xE os (bB s.book.toNat) n first s.len.toNat b).map λx=>(s.book.toNat,x))++zS os n first r (b+s.len.toNat)
def pB (os:C_):H_->G_->Nat->R_
 |l::r,n::g,first=>zS os n.toNat first l 0++pB os r g (first+n.toNat)
 |_,_,_=>[]
def kt {σ τ:Type}(st:Nat×Nat->σ->Sum σ τ):R_->σ->Sum σ τ
 |[],s=>.inl s
 |p::r,s=>match st p s with
  |.inl s=>kt st r s
  |.inr z=>.inr z
def D7 {σ τ:Type}{st:Nat×Nat->σ->Sum σ τ}:∀{l r:R_}{s:σ},kt st (l++r) s=match kt st l s with
  |.inl s=>kt st r s
  |.inr z=>.inr z
 |[],r,s=>rfl
 |p::l,r,s=>by
  rw[aR,kt,kt]
  cases st p s with
  |inl s=>simp only[D7]
  |inr z=>rfl
def Pa {σ τ:Type}(hp:σ->am->am)(hq:τ->am->am)(L l:Nat)(st:Nat×Nat->σ->Sum σ τ)(di:R_->σ->Prop):Prop :=
 ∀p r s K o N,di (p::r) s->L<=K->K<N->
  (∃s2 M,N<=M∧st p s=.inl s2∧di r s2∧b7 (Dn prog) (.yield l) [.agg [A_ (p.1:Int),A_ (p.2:Int),A_ ((p.2+bB p.1:Nat):Int)]] ⟨hp s [(K,o)],N⟩=some (B_ true,⟨hp s2 [(K,o)],M⟩))∨
  (∃z M,N<=M∧st p s=.inr z∧b7 (Dn prog) (.yield l) [.agg [A_ (p.1:Int),A_ (p.2:Int),A_ ((p.2+bB p.1:Nat):Int)]] ⟨hp s [(K,o)],N⟩=some (B_ false,⟨hq z [(K,o)],M⟩))
structure PlS where
 l:Nat
 p2:Nat
 p3:Nat
 full:H_
 os:C_
abbrev eP (P:PlS)(first g b:Int)(r:aV):aV:=(0,.yield P.l)::(2,.ptr P.p2 0)::(3,.ptr P.p3 0)::(5,A_ first)::(6,A_ g)::(8,A_ b)::r
abbrev Jd (P:PlS)(g:Int)(r:aV):aV:=(14,.d (.lst (bF P.full)))::(15,A_ P.full.length)::(16,A_ g)::r
abbrev PC (ls:Q_)(k:Int):aV:=[(21,.d (.lst (gx ls))),(22,A_ ls.length),(23,A_ k)]
section
variable {σ τ:Type}{hp:σ->am->am}{hq:τ->am->am}{L:Nat}{P:PlS}{st:Nat×Nat->σ->Sum σ τ}{di:R_->σ->Prop}
def azq (H:Tl hp L)(H2:Tl hq L)(hY:Pa hp hq L P.l st di)(hg3:∀s T,get (hp s T) P.p3=some (.cells [.own false 1 (cN P.os)]))(s0:aX)(bk:Nat)(hbk:s0.book=bk)(hb1:1<=bk∧bk<=11)(b:Nat)(hb:b+1<P.os.length)(ho:P.os.length<=100)(hhi:nth P.os (b+1)<=256)(first g en gi k:Int)(w:Nat)(hw:w<=8)(ls:Q_)(K:Nat)(hK:L<=K)(rest:R_):∀(f x N:Nat) (s:σ),nth P.os (b+1)<=x+f->x<=300->K<N->di ((qY (bB bk) (nth P.os (b+1)) f x).map (λy=>(bk,w*32+y))++rest) s->
  (∃s2 M,N<=M∧kt st ((qY (bB bk) (nth P.os (b+1)) f x).map (λy=>(bk,w*32+y))) s=.inl s2∧di rest s2∧
   (Dn prog).code (.loop mD) ⟨eP P first g b ((10,.ptr K 0)::(11,A_ en)::(12,A_ w)::(13,A_ x)::Jd P gi (PC ls k)),⟨hp s [(K,.cells [A_ s0.book,A_ s0.len])],N⟩⟩ =
   some (.exit 8,⟨eP P first g b ((10,.ptr K 0)::(11,A_ en)::(12,A_ w)::Jd P gi (PC ls k)),⟨hp s2 [(K,.cells [A_ s0.book,A_ s0.len])],M⟩⟩))∨
  (∃z M,N<=M∧kt st ((qY (bB bk) (nth P.os (b+1)) f x).map (λy=>(bk,w*32+y))) s=.inr z∧
   (Dn prog).code (.loop mD) ⟨eP P first g b ((10,.ptr K 0)::(11,A_ en)::(12,A_ w)::(13,A_ x)::Jd P gi (PC ls k)),⟨hp s [(K,.cells [A_ s0.book,A_ s0.len])],N⟩⟩ =
   some (.ret,⟨[],⟨hq z [],M⟩⟩)):=by
 have hG:=λs o=>H.get s K o hK
 have hD2:=λs o=>H2.del s K o hK
 have hd4:bB bk<=4∧2<=bB bk:=by grind [bB]
 have hdim:=aum bk;have hgo:(cN P.os)[b+1]?=some [.int .i64 (nth P.os (b+1):Nat)]:=Dk hb;have hne:cN P.os≠[]:=d_;intro f
 induction f with
 |zero =>
  intro x N s h1 h2 hKN hi;refine .inl ⟨s,N,ai _,rfl,hi,?_⟩;rw[ah mG];simp(disch:=omega)[↓aa,hg3,hgo]
 |succ f ih =>
  intro x N s h1 h2 hKN hi;by_cases hx:x<nth P.os (b+1)
  .rw[qY,ac hx,b9,aR]at hi;rw[qY,ac hx,b9,kt];have c1:((x+bB bk:Nat):Int)=(x:Int)+bB bk:=rfl;have c2:((w*32+x:Nat):Int)=(w:Int)*32+x:=o_;have c3:((w*32+x+bB bk:Nat):Int)=(w:Int)*32+x+bB bk:=o_;rcases hY (bk,w*32+x) _ s K (.cells [A_ s0.book,A_ s0.len]) N hi hK hKN with ⟨s2,M,hM,e1,e2,e3⟩|⟨z,M,hM,e1,e3⟩
   .rw[e1];simp only[c2,c3]at e3;have h9:=ih (x+bB bk) M s2 o_ o_ o_ e2;rw[c1]at h9;rw[hbk]at h9 e3⊢;rcases h9 with ⟨s3,M2,hM2,f1,f2,f3⟩|⟨z,M2,hM2,f1,f3⟩
    .refine .inl ⟨s3,M2,o_,f1,f2,?_⟩;rw[<-f3,ah mG];simp(disch:=omega)[↓ac,hg3,hgo,hG,hdim,-lc,e3]
    .refine .inr ⟨z,M2,o_,f1,?_⟩;rw[<-f3,ah mG];simp(disch:=omega)[↓ac,hg3,hgo,hG,hdim,-lc,e3]
   .rw[e1];simp only[c2,c3]at e3;rw[hbk]at e3⊢;refine .inr ⟨z,M,hM,rfl,?_⟩;rw[ah mG];simp(disch:=omega)[↓ac,hg3,hgo,hG,hdim,-lc,e3,hD2]
  .rw[qY,aa hx]at hi;rw[qY,aa hx];refine .inl ⟨s,N,ai _,rfl,hi,?_⟩;rw[ah mG];simp(disch:=omega)[↓aa,hg3,hgo]
def azr (i:aM)(hil:i.groups.length<=1000)(H:Tl hp L)(H2:Tl hq L)(hY:Pa hp hq L P.l st di)(hg2:∀s T,get (hp s T) P.p2=some (.cells i.cells))(hg3:∀s T,get (hp s T) P.p3=some (.cells [.own false 1 (cN P.os)]))(s0:aX)(bk:Nat)(hbk:s0.book=bk)(hb1:1<=bk∧bk<=11)(b:Nat)(hb:b+1<P.os.length)(ho:P.os.length<=100)(hhi:∀x∈P.os,x<=256)(first n g:Nat)(hgl:g<i.groups.length)(hn:nth i.groups g=n)(hfn:first+n<=8)(en gi k:Int)(ls:Q_)(K:Nat)(hK:L<=K)(rest:R_):∀(j w N:Nat) (s:σ),w+j=first+n->K<N->di ((pY P.os (bB bk) b j w).map (λy=>(bk,y))++rest) s->
  (∃s2 M,N<=M∧kt st ((pY P.os (bB bk) b j w).map (λy=>(bk,y))) s=.inl s2∧di rest s2∧
   (Dn prog).code (.loop mK) ⟨eP P first g b ((10,.ptr K 0)::(11,A_ en)::(12,A_ w)::Jd P gi (PC ls k)),⟨hp s [(K,.cells [A_ s0.book,A_ s0.len])],N⟩⟩ =
   some (.exit 6,⟨eP P first g b ((10,.ptr K 0)::(11,A_ en)::Jd P gi (PC ls k)),⟨hp s2 [(K,.cells [A_ s0.book,A_ s0.len])],M⟩⟩))∨
  (∃z M,N<=M∧kt st ((pY P.os (bB bk) b j w).map (λy=>(bk,y))) s=.inr z∧
   (Dn prog).code (.loop mK) ⟨eP P first g b ((10,.ptr K 0)::(11,A_ en)::(12,A_ w)::Jd P gi (PC ls k)),⟨hp s [(K,.cells [A_ s0.book,A_ s0.len])],N⟩⟩ =
   some (.ret,⟨[],⟨hq z [],M⟩⟩)):=by
 have hgo:(cN P.os)[b]?=some [.int .i64 (nth P.os b:Nat)]:=Dk o_;have hob:=hhi (nth P.os b) (iP o_);have hob1:=hhi (nth P.os (b+1)) (iP hb);simp only[aM.cells]at hg2;intro j
 induction j with
 |zero =>
  intro w N s h1 hKN hi;refine .inl ⟨s,N,ai _,rfl,hi,?_⟩;rw[ah qi];simp(disch:=omega)[↓aa,hg2,hn]
 |succ j ih =>
  intro w N s h1 hKN hi;have c1:((w+1:Nat):Int)=(w:Int)+1:=rfl;have em:(pY P.os (bB bk) b (j+1) w).map (λy=>(bk,y))=(qY (bB bk) (nth P.os (b+1)) 300 (nth P.os b)).map (λy=>(bk,w*32+y))++(pY P.os (bB bk) b j (w+1)).map (λy=>(bk,y)):=by
   simp_all [pY]
  rw[em]at hi⊢;rw[ay]at hi;rw[D7];rcases azq H H2 hY hg3 s0 bk hbk hb1 b hb ho hob1 first g en gi k w o_ ls K hK _ 300 (nth P.os b) N s o_ o_ hKN hi with ⟨s2,M,hM,e1,e2,e3⟩|⟨z,M,hM,e1,e3⟩
  .rw[e1];have h9:=ih (w+1) M s2 o_ o_ e2;rcases h9 with ⟨s3,M2,hM2,f1,f2,f3⟩|⟨z,M2,hM2,f1,f3⟩
   .refine .inl ⟨s3,M2,o_,f1,f2,?_⟩;rw[<-f3,ah qi];simp(disch:=omega)[↓ac,hg2,hg3,hgo,hn,e3]
   .refine .inr ⟨z,M2,o_,f1,?_⟩;rw[<-f3,ah qi];simp(disch:=omega)[↓ac,hg2,hg3,hgo,hn,e3]
  .rw[e1];refine .inr ⟨z,M,hM,rfl,?_⟩;rw[ah qi];simp(disch:=omega)[↓ac,hg2,hg3,hgo,hn,e3]
def ayF (i:aM)(hil:i.groups.length<=1000)(H:Tl hp L)(H2:Tl hq L)(hY:Pa hp hq L P.l st di)(hg2:∀s T,get (hp s T) P.p2=some (.cells i.cells))(hg3:∀s T,get (hp s T) P.p3=some (.cells [.own false 1 (cN P.os)]))(s0:aX)(bk:Nat)(hbk:s0.book=bk)(hb1:bk<=11∨bk=13)(ho:P.os.length<=100)(hhi:∀x∈P.os,x<=256)(first n g:Nat)(hgl:g<i.groups.length)(hn:nth i.groups g=n)(hfn:first+n<=8)(en:Nat)(hen:en<P.os.length)(gi k:Int)(ls:Q_)(K:Nat)(hK:L<=K)(rest:R_):∀(j b N:Nat) (s:σ),b+j=en->K<N->di ((if bk=0∨bk=13 then [] else (xE P.os (bB bk) n first j b).map (λy=>(bk,y)))++rest) s->
  (∃s2 M,N<=M∧kt st (if bk=0∨bk=13 then [] else (xE P.os (bB bk) n first j b).map (λy=>(bk,y))) s=.inl s2∧di rest s2∧
   (Dn prog).code (.loop mB) ⟨eP P first g b ((10,.ptr K 0)::(11,A_ en)::Jd P gi (PC ls k)),⟨hp s [(K,.cells [A_ s0.book,A_ s0.len])],N⟩⟩ =
   some (.exit 4,⟨eP P first g en (Jd P gi (PC ls k)),⟨hp s2 [],M⟩⟩))∨
  (∃z M,N<=M∧kt st (if bk=0∨bk=13 then [] else (xE P.os (bB bk) n first j b).map (λy=>(bk,y))) s=.inr z∧
   (Dn prog).code (.loop mB) ⟨eP P first g b ((10,.ptr K 0)::(11,A_ en)::Jd P gi (PC ls k)),⟨hp s [(K,.cells [A_ s0.book,A_ s0.len])],N⟩⟩ =
   some (.ret,⟨[],⟨hq z [],M⟩⟩)):=by
 have hG:=λs o=>H.get s K o hK
 have hD:=λs o=>H.del s K o hK
 intro j
 induction j with
 |zero =>
  intro b N s h1 hKN hi;have eb:b=en:=o_;subst eb;have e0:(if bk=0∨bk=13 then [] else (xE P.os (bB bk) n first 0 b).map (λy=>(bk,y)))=[]:=by split<;>rfl
  rw[e0]at hi⊢;refine .inl ⟨s,N,ai _,rfl,hi,?_⟩;rw[ah j9];simp(disch:=omega)[↓aa,hD]
 |succ j ih =>
  intro b N s h1 hKN hi;have c1:((b+1:Nat):Int)=(b:Int)+1:=rfl;by_cases h0:bk=0∨bk=13
  .rw[ac h0]at hi⊢;have h9:=ih (b+1) N s o_ hKN u_;rw[ac h0,c1]at h9;rw[hbk]at h9⊢;rcases h9 with ⟨s3,M2,hM2,f1,f2,f3⟩|⟨z,M2,hM2,f1,f3⟩
   .refine .inl ⟨s3,M2,o_,f1,f2,?_⟩;rw[<-f3,ah j9];rcases h0 with h0|h0<;>simp(disch:=omega)[↓ac,↓aa,hG]
   .refine .inr ⟨z,M2,o_,f1,?_⟩;rw[<-f3,ah j9];rcases h0 with h0|h0<;>simp(disch:=omega)[↓ac,↓aa,hG]
  .rw[aa h0]at hi⊢;have em:(xE P.os (bB bk) n first (j+1) b).map (λy=>(bk,y))=(pY P.os (bB bk) b n first).map (λy=>(bk,y))++(xE P.os (bB bk) n first j (b+1)).map (λy=>(bk,y)):=by
    grind [xE]
   rw[em]at hi⊢;rw[ay]at hi;rw[D7];rcases azr i hil H H2 hY hg2 hg3 s0 bk hbk o_ b o_ ho hhi first n g hgl hn hfn en gi k ls K hK _ n first N s rfl hKN hi with ⟨s2,M,hM,e1,e2,e3⟩|⟨z,M,hM,e1,e3⟩
   .rw[e1];have h9:=ih (b+1) M s2 o_ o_ u_;rw[aa h0,c1]at h9;rw[hbk]at h9 e3⊢;rcases h9 with ⟨s3,M2,hM2,f1,f2,f3⟩|⟨z,M2,hM2,f1,f3⟩
    .refine .inl ⟨s3,M2,o_,f1,f2,?_⟩;rw[<-f3,ah j9];simp(disch:=omega)[↓ac,↓aa,hG,e3]
    .refine .inr ⟨z,M2,o_,f1,?_⟩;rw[<-f3,ah j9];simp(disch:=omega)[↓ac,↓aa,hG,e3]
   .rw[e1];refine .inr ⟨z,M,hM,rfl,?_⟩;rw[ah j9];simp(disch:=omega)[↓ac,↓aa,hG,e3]
def azb (i:aM)(hil:i.groups.length<=1000)(H:Tl hp L)(H2:Tl hq L)(hY:Pa hp hq L P.l st di)(hg2:∀s T,get (hp s T) P.p2=some (.cells i.cells))(hg3:∀s T,get (hp s T) P.p3=some (.cells [.own false 1 (cN P.os)]))(ho:P.os.length<=100)(hhi:∀x∈P.os,x<=256)(first n g:Nat)(hgl:g<i.groups.length)(hn:nth i.groups g=n)(hfn:first+n<=8)(gi:Int)(ls:Q_)(hls:ls.length<=1000)(rest:R_):∀(r:Q_) (k b N:Nat) (lf:Int) (s:σ),ls.drop k=r->fitsS lf r->(b:Int)+lf<P.os.length->L<=N->di (zS P.os n first r b++rest) s->
  (∃s2 M,N<=M∧kt st (zS P.os n first r b) s=.inl s2∧di rest s2∧
   (Dn prog).code (.loop mI) ⟨eP P first g b (Jd P gi (PC ls k)),⟨hp s [],N⟩⟩ =
   some (.exit 2,⟨(0,.yield P.l)::(2,.ptr P.p2 0)::(3,.ptr P.p3 0)::(5,A_ first)::(6,A_ g)::Jd P gi [],⟨hp s2 [],M⟩⟩))∨
  (∃z M,N<=M∧kt st (zS P.os n first r b) s=.inr z∧
   (Dn prog).code (.loop mI) ⟨eP P first g b (Jd P gi (PC ls k)),⟨hp s [],N⟩⟩ =
   some (.ret,⟨[],⟨hq z [],M⟩⟩)):=by
 intro r
 induction r with
 |nil =>
  intro k b N lf s hd hf hb hN hi;have hk:=bQ hd;refine .inl ⟨s,N,ai _,rfl,hi,?_⟩;rw[ah qo];simp(disch:=omega)[↓aa]
 |cons s0 r ih =>
  intro k b N lf s hd hf hb hN hi;have hg:=yD hd;have hlt:=cm hd;obtain⟨⟨⟨l1,l2⟩,b1,b2⟩,hf2⟩:=hf;obtain⟨bk,hbk⟩:=aA b1;have hbt:s0.book.toNat=bk:=o_;have hif:(s0.book=0∨s0.book=13)↔(bk=0∨bk=13):=o_;have em:zS P.os n first (s0::r) b=(if bk=0∨bk=13 then [] else (xE P.os (bB bk) n first s0.len.toNat b).map (λy=>(bk,y)))++zS P.os n first r (b+s0.len.toNat):=by
   grind [zS]
  rw[em]at hi⊢;rw[ay]at hi;rw[D7];have hp1:=λs o=>H.put s N o hN
  have hp2:=λs o o'=>H.put2 s N o o' hN
  have hG:=λs o=>H.get s N o hN
  have c1:((k+1:Nat):Int)=(k:Int)+1:=rfl;have cE:((b+s0.len.toNat:Nat):Int)=(b:Int)+s0.len:=o_;rcases ayF i hil H H2 hY hg2 hg3 s0 bk hbk o_ ho hhi first n g hgl hn hfn (b+s0.len.toNat) o_ gi k ls N hN _ s0.len.toNat b (N+1) s rfl o_ hi with ⟨s2,M,hM,e1,e2,e3⟩|⟨z,M,hM,e1,e3⟩
  .rw[e1];have h9:=ih (k+1) (b+s0.len.toNat) M (lf-s0.len) s2 (bE hd) hf2 o_ o_ e2;rw[c1,cE]at h9;rw[cE]at e3;rcases h9 with ⟨s3,M2,hM2,f1,f2,f3⟩|⟨z,M2,hM2,f1,f3⟩
   .refine .inl ⟨s3,M2,o_,f1,f2,?_⟩;rw[<-f3,ah qo];simp(disch:=omega)[↓ac,hg,hp1,hp2,hG,e3]
   .refine .inr ⟨z,M2,o_,f1,?_⟩;rw[<-f3,ah qo];simp(disch:=omega)[↓ac,hg,hp1,hp2,hG,e3]
  .rw[e1];rw[cE]at e3;refine .inr ⟨z,M,o_,rfl,?_⟩;rw[ah qo];simp(disch:=omega)[↓ac,hg,hp1,hp2,hG,e3]
def ayp (i:aM)(hil:i.groups.length<=1000)(H:Tl hp L)(H2:Tl hq L)(hY:Pa hp hq L P.l st di)(hg2:∀s T,get (hp s T) P.p2=some (.cells i.cells))(hg3:∀s T,get (hp s T) P.p3=some (.cells [.own false 1 (cN P.os)]))(ho:P.os.length<=100)(hhi:∀x∈P.os,x<=256)(m:Int)(hm:0<=m∧m<P.os.length)(hfl:P.full.length<=1000)(hlc:∀l∈P.full,l.length<=1000)(hgg:∀n∈i.groups,1<=n)(rest:R_):∀(r:H_) (q:G_) (g first N:Nat) (s:σ),P.full.drop g=r->i.groups.drop g=q->r.length=q.length->fk m r->(first:Int)+q.sum<=8->L<=N->di (pB P.os r q first++rest) s->
  (∃s2 M,N<=M∧kt st (pB P.os r q first) s=.inl s2∧di rest s2∧
   (Dn prog).code (.loop mw) ⟨(0,.yield P.l)::(2,.ptr P.p2 0)::(3,.ptr P.p3 0)::(5,A_ first)::Jd P g [],⟨hp s [],N⟩⟩=some (.exit 0,⟨[],⟨hp s2 [],M⟩⟩))∨
  (∃z M,N<=M∧kt st (pB P.os r q first) s=.inr z∧
   (Dn prog).code (.loop mw) ⟨(0,.yield P.l)::(2,.ptr P.p2 0)::(3,.ptr P.p3 0)::(5,A_ first)::Jd P g [],⟨hp s [],N⟩⟩=some (.ret,⟨[],⟨hq z [],M⟩⟩)):=by
 have hg2':=hg2;simp only[aM.cells]at hg2';intro r
 induction r with
 |nil =>
  intro q g first N s hd hd2 hl hf hs hN hi
  have hk:=bQ hd;have hq0:q=[]:=d_;subst hq0;refine .inl ⟨s,N,ai _,rfl,hi,?_⟩;rw[ah qe];simp(disch:=omega)[↓aa]
 |cons l r ih =>
  intro q g first N s hd hd2 hl hf hs hN hi
  cases q with
  |nil=>simp at hl
  |cons n0 q =>
   have hg:=pb hd;have hlt:=cm hd;have hlt2:=cm hd2;have hn0:nth i.groups g=n0:=by
    grind [pP]
   have hn1:=hgg n0 (by grind [iP]);obtain⟨n,hn⟩:=aA (show 0<=n0 by omega);have hnt:n0.toNat=n:=o_;have hqs:0<=q.sum:=by
    have:∀x∈q,1<=x:=λx hx=>hgg x (by grind)
    have:=kO this;omega
   rw[j7]at hs;have em:pB P.os (l::r) (n0::q) first=zS P.os n first l 0++pB P.os r q (first+n):=by rw[pB,hnt]
   rw[em]at hi⊢;rw[ay]at hi;rw[D7];have hml:l∈P.full:=by rw[<-aT g P.full,hd];simp
   have c0:((0:Nat):Int)=0:=rfl;have c1:((g+1:Nat):Int)=(g:Int)+1:=rfl;have cF:((first+n:Nat):Int)=(first:Int)+n:=rfl;simp only[ar,qJ]at hl;rcases azb i hil H H2 hY hg2 hg3 ho hhi first n g hlt2 o_ o_ g l (hlc l hml) _ l 0 0 N m s rfl (hf l (.head _)) o_ hN hi with ⟨s2,M,hM,e1,e2,e3⟩|⟨z,M,hM,e1,e3⟩
   .rw[e1];have h9:=ih q (g+1) (first+n) M s2 (bE hd) (bE hd2) hl (λx hx=>hf x (.tail _ hx)) o_ o_ e2;rw[c1,cF]at h9;rw[c0]at e3;rw[hn]at hn0;rcases h9 with ⟨s3,M2,hM2,f1,f2,f3⟩|⟨z,M2,hM2,f1,f3⟩
    .refine .inl ⟨s3,M2,o_,f1,f2,?_⟩;rw[<-f3,ah qe];simp(disch:=omega)[↓ac,hg,hg2',hn0,e3]
    .refine .inr ⟨z,M2,o_,f1,?_⟩;rw[<-f3,ah qe];simp(disch:=omega)[↓ac,hg,hg2',hn0,e3]
   .rw[e1];rw[c0]at e3;refine .inr ⟨z,M,hM,rfl,?_⟩;rw[ah qe];simp(disch:=omega)[↓ac,hg,e3]
end
def adX {σ τ:Type}{hp:σ->am->am}{hq:τ->am->am}{L:Nat}{P:PlS}{st:Nat×Nat->σ->Sum σ τ}{di:R_->σ->Prop}(i:aM)(hi:i.Fit)(hm:i.may 11)(p1:Nat)(H:Tl hp L)(H2:Tl hq L)(hY:Pa hp hq L P.l st di)(hg1:∀s,get (hp s []) p1=some (.cells [.d (.lst (bF P.full))]))(hg2:∀s T,get (hp s T) P.p2=some (.cells i.cells))(hg3:∀s T,get (hp s T) P.p3=some (.cells [.own false 1 (cN P.os)]))(ho:P.os.length<=100)(hhi:∀x∈P.os,x<=256)(hmo:i.max<P.os.length)(hf:jn i P.full)(N:Nat)(hN:L<=N)(s:σ)(hs:di (pB P.os P.full i.groups 0) s) :
  (∃s2 M,N<=M∧kt st (pB P.os P.full i.groups 0) s=.inl s2∧di [] s2∧(Dn prog).call iw [.yield P.l,.ptr p1 0,.ptr P.p2 0,.ptr P.p3 0] ⟨hp s [],N⟩=some (.tup [],⟨hp s2 [],M⟩))∨
  (∃z M,N<=M∧kt st (pB P.os P.full i.groups 0) s=.inr z∧(Dn prog).call iw [.yield P.l,.ptr p1 0,.ptr P.p2 0,.ptr P.p3 0] ⟨hp s [],N⟩=some (.tup [],⟨hq z [],M⟩)):=by
 have hmx:=ig hm;obtain⟨g1,g2⟩:=dp hm;have hmm:i.many<=8:=by grind [aM.many]
 have hgl:i.groups.length<=8:=by have:=kO (λn hn=>(g1 n hn).1);omega
 have hlc:∀l∈P.full,l.length<=1000:=λl hl=>by
  rcases HP (hf.2 l hl) with h|h<;>grind
 have hfl:=hf.1;have c0:((0:Nat):Int)=0:=rfl;have h:=ayp i hi.len H H2 hY hg2 hg3 ho hhi i.max ⟨hmx.1,hmo⟩ o_ hlc (λn hn=>(g1 n hn).1) [] P.full i.groups 0 0 N s rfl rfl hfl hf.2 o_ hN u_;rw[c0]at h;rw[ba Z4 aaj rfl];rcases h with ⟨s2,M,hM,e1,e2,e3⟩|⟨z,M,hM,e1,e3⟩
 .refine .inl ⟨s2,M,hM,e1,e2,?_⟩;simp(disch:=omega)[hg1,e3]
 .refine .inr ⟨z,M,hM,e1,?_⟩;simp(disch:=omega)[hg1,e3]
def Ns (r:Nat)(hr:r<=11)(i:aM)(y:D)(H:am)(N:Nat)(hL:Lt H N):(Dn prog).call PX [A_ r,.agg i.cells,.d y] ⟨H,N⟩=some (.fn iw [] [.ptr (N+1) 0,.ptr N 0,.ptr (N+1+1) 0],⟨H++[(N,.cells i.cells)]++[(N+1,.cells [.d y])]++[(N+1+1,.cells [.own false 1 (cN (offs r i.short))])],N+1+1+1⟩):=by
 have hof:=AC r i.short;rw[ac o_]at hof;have L1:=Lg (o:=.cells i.cells) hL;have L2:=Lg (o:=.cells [.d y]) L1;have e1:=λo=>tR (o:=o) hL
 have e2:=λo=>tR (o:=o) L1
 have e3:=λo=>tR (o:=o) L2
 have e4:=zh (N:=N+1) (o:=.cells [.d y]) (wC (o:=.cells i.cells) hL);have e5:=λo=>wC (o:=o) L2
 have e6:=λo o'=>Gb (o:=o) (o':=o') L2
 have hsh:i.short=decide (i.seq=2):=rfl;rw[ba aeB ae2 rfl];simp only[aM.cells]at e1 e2 e3 e4 e5 e6⊢;by_cases hs2:i.seq=2
 .rw[decide_eq_true hs2]at hsh;rw[hsh]at hof⊢;simp(disch:=omega)[↓ac,hof,e1,e2,e3,e4,e5,e6,-List.append_assoc]
 .rw[decide_eq_false hs2]at hsh;rw[hsh]at hof⊢;simp(disch:=omega)[↓aa,hof,e1,e2,e3,e4,e5,e6,-List.append_assoc]
abbrev av1:D_:=[A_ 0,A_ 0,.nl,.nl]
abbrev qC (id:Nat):D_:=[A_ id,A_ (bI id),.own false 1 (cN (b8 id)),.own false 1 (cN (dy id))]
def FV (C:D_):Prop:=C.length=48∧∀id,id<12->sub C (4*id) 4=av1∨(1<=id∧sub C (4*id) 4=qC id)
theorem Ur {α:Type}{C:List α}{a k:Nat}(hk:k<4):(sub C a 4)[k]?=C[a+k]?:=by
 simp_all
def Qy {α:Type}{C W:List α}{a:Nat}(hw:W.length=4)(ha:a+4<=C.length):sub (aE C a W) a 4=W:=by
 grind [sub,aE,List.drop_eq_nil_of_le]
def abZ {α:Type}{C W:List α}{a b:Nat}(hw:W.length=4)(ha:a+4<=C.length)(hb:b+4<=C.length)(h:b+4<=a∨a+4<=b):sub (aE C a W) b 4=sub C b 4:=by
 apply dC
 grind [Ur,aE,sub]
def ajR {α:Type}{C W:List α}{a:Nat}(hw:W.length=4)(ha:a+4<=C.length):(aE C a W).length=C.length:=by
 grind [aE]
def arj {C W:D_}{a:Nat}(ha:a+4<=C.length)(h:sub C a 4=W):aE C a W=C:=by
 subst h
 grind [aE,sub,List.take_append_drop]
def abf {C:D_}(h:FV C){id:Nat}(hid:1<=id∧id<=11):FV (aE C (4*id) (qC id)):=by
 refine⟨by rw[ajR rfl (by rw[h.1];omega)];exact h.1,λj hj=>?_⟩;by_cases e:j=id
 .subst e;exact .inr ⟨hid.1,Qy rfl (by rw[h.1];omega)⟩
 .rw[abZ rfl (by rw[h.1];omega) (by rw[h.1];omega) o_];exact h.2 j hj
structure Bk (hp:D_->am->am)(A N:Nat):Prop where
 gA:∀C T,get (hp C T) A=some (.cells C)
 pA:∀C T C',put (hp C T) A (.cells C')=hp C' T
 pN:∀C o,put (hp C []) N o=hp C [(N,o)]
 pN2:∀C o o',put (hp C [(N,o)]) N o'=hp C [(N,o')]
 gN:∀C o,get (hp C [(N,o)]) N=some o
 dN:∀C o,del (hp C [(N,o)]) N=hp C []
def O9 {hp:D_->am->am}{A N:Nat}(H:Bk hp A N)(C:D_)(hC:FV C)(id:Nat)(hid:1<=id∧id<=11):(Dn prog).call lN [.ptr A 0,A_ id] ⟨hp C [],N⟩=some (mS id,⟨hp (aE C (4*id) (qC id)) [],N+1⟩):=by
 have hb:=Vc id o_;have h48:=hC.1;have hia:∀p,IU 12 4 (.ptr p 0) (A_ id)=some (.ptr p (4*id)):=λp=>by
  grind [ZT,IU,gP,RT]
 rw[ba Ym WC rfl];rcases hC.2 id o_ with h0|⟨_,h1⟩
 .have e0:C[4*id]?=some (A_ 0):=by rw[<-dR (4*id),<-Ur o_,h0];rfl
  obtain⟨hl0,e0⟩:=aH.1 e0;have hsm:=Qy (C:=C) (W:=qC id) (a:=4*id) rfl o_;have hsl:=ajR (C:=C) (W:=qC id) (a:=4*id) rfl o_;simp(disch:=omega)[↓ac,H.gA,H.pA,H.pN,H.pN2,H.gN,H.dN,hia,e0,hb,-aE,-sub,-MJ,-alq,hsm,hsl];simp
 .have e0:C[4*id]?=some (A_ id):=by rw[<-dR (4*id),<-Ur o_,h1];rfl
  obtain⟨hl0,e0⟩:=aH.1 e0;rw[arj o_ h1];simp(disch:=omega)[↓ac,↓aa,H.gA,H.pN,H.pN2,H.gN,H.dN,hia,e0,-aE,-sub,-MJ,-alq,h1];simp
def YJ (l:AA_)(hl:l.length<=100000)(h:am)(N:Nat):(Dn prog).call yR [.d (.lst (eh l))] ⟨h,N⟩=some (B_ (decide (0<l.length)),⟨h,N⟩):=by
 rw[ba Um T6 rfl];by_cases h0:0<l.length
 .rw[decide_eq_true h0];simp(disch:=omega)[↓ac]
 .rw[decide_eq_false h0];simp(disch:=omega)[↓aa]
def Vv (F:AV)(P:AA_->Bool)(l:O_)(hl:l.length<=1000000000)(h:am)(N:Nat)(hF:firm (share F)=F)(hc:∀v∈l,b7 (Dn prog) F [.d (.lst (eh v))] ⟨h,N⟩=some (B_ (P v),⟨h,N⟩)):∀(r:O_) (i:Nat),l.drop i=r->
  (r.any P=true∧∃k:Nat,(Dn prog).code (.loop eU) ⟨[(0,.d (.lst (cX l))),(1,F),(7,A_ l.length),(8,A_ i)],⟨h,N⟩⟩=some (.ret,⟨[(4,A_ k)],⟨h,N⟩⟩))∨
  (r.any P=false∧(Dn prog).code (.loop eU) ⟨[(0,.d (.lst (cX l))),(1,F),(7,A_ l.length),(8,A_ i)],⟨h,N⟩⟩=some (.exit 0,⟨[],⟨h,N⟩⟩)):=by
 intro r
 induction r with
 |nil =>
  intro i hd;have hi:=bQ hd;refine .inr ⟨rfl,?_⟩;rw[ah gD];simp(disch:=omega)[↓aa]
 |cons v r ih =>
  intro i hd;have hg:=I8 hd;have hlt:=cm hd;have hv:=hc v (by rw[<-aT i l,hd];simp);have h5:=ih (i+1) (bE hd)
  cases hp:P v with
  |true =>
   rw[hp]at hv;refine .inl ⟨u_,i,?_⟩;rw[ah gD];simp(disch:=omega)[↓ac,hg,hF,hv]
  |false =>
   rw[hp]at hv;rw[eG,hp,mH];rcases h5 with ⟨e1,k,e2⟩|⟨e1,e2⟩
   .refine .inl ⟨e1,k,?_⟩;rw[ah gD,<-e2];simp(disch:=omega)[↓ac,hg,hF,hv]
   .refine .inr ⟨e1,?_⟩;rw[ah gD,<-e2];simp(disch:=omega)[↓ac,hg,hF,hv]
def XH (F:AV)(P:AA_->Bool)(l:O_)(hl:l.length<=1000000000)(h:am)(N:Nat)(hF:firm (share F)=F)(hF2:firm F=F)(hc:∀v∈l,b7 (Dn prog) F [.d (.lst (eh v))] ⟨h,N⟩=some (B_ (P v),⟨h,N⟩)) :
  (Dn prog).call pf [.d (.lst (cX l)),F] ⟨h,N⟩=some (B_ (l.any P),⟨h,N⟩):=by
 have h1:=Vv F P l hl h N hF hc l 0 rfl;have c0:((0:Nat):Int)=0:=rfl;rw[c0]at h1;have h2:∃k:Int,(0<=k↔l.any P=true)∧(Dn prog).call rY [.d (.lst (cX l)),F] ⟨h,N⟩=some (A_ k,⟨h,N⟩):=by
  rcases h1 with ⟨e1,k,e2⟩|⟨e1,e2⟩
  .refine⟨k,⟨λ_=>e1,λ_=>by omega⟩,?_⟩;rw[ba rS rU rfl];simp(disch:=omega)[e2]
  .refine⟨-1,⟨λh=>by omega,λh=>by simp_all⟩,?_⟩;rw[ba rS rU rfl];simp(disch:=omega)[e2]
 obtain⟨k,e1,e2⟩:=h2;rw[ba Bf Ag rfl]
 cases hp:l.any P with
 |true =>
  have:=e1.2 hp;simp(disch:=omega)[↓ac,hF2,e2]
 |false =>
  have:¬0<=k:=λh=>by simp_all
  simp(disch:=omega)[↓aa,hF2,e2]
def nE (t:O_):Bool:=t.any λl=>decide (0<l.length)
def QM (t:O_)(ht:t.length<=100000)(ht2:∀l∈t,l.length<=100000):bq prog Ls [.d (.lst (cX t))]=some (B_ (nE t)):=by
 have h:=XH (.fn yR [] []) (λl=>decide (0<l.length)) t o_ [] 0 rfl rfl λv hv=>by
  simp_all [YJ]
 rw[aU YV Y8 rfl];unfold nE;simp(disch:=omega)[h]
abbrev iM:=@List.getElem?_replicate
abbrev iR:=@List.getElem?_take
abbrev j5:=@List.getD_eq_getElem?_getD
def Lp {d hi:Nat}(hd:1<=d):∀{f lo x:Nat},(hi-lo) % d=0->x∈qY d hi f lo->lo<=x∧x+d<=hi∧(x-lo) % d=0
 |0,lo,x,_,h=>by simp[qY]at h
 |f+1,lo,x,hm,h=>by
  rw[qY]at h;by_cases h1:lo<hi
  .rw[ac h1]at h;have h2:lo+d<=hi:=by
    rcases bt (hi-lo) d with h3|h3
    .rw[eW h3]at hm;omega
    .omega
   rcases aB.1 h with e|e
   .subst e;exact⟨ai _,h2,s_⟩
   .have h4:(hi-(lo+d)) % d=0:=by
     have:hi-lo=hi-(lo+d)+d:=o_;rw[this,Nat.add_mod_right]at hm;exact hm
    have ⟨a,b,c⟩:=Lp hd h4 e;refine⟨o_,b,?_⟩;have:x-lo=x-(lo+d)+d:=o_;rw[this,Nat.add_mod_right];exact c
  .rw[aa h1]at h;simp at h
def ZA {os:C_}{d b:Nat}:∀{k w y:Nat},y∈pY os d b k w->∃w' x,w<=w'∧w'<w+k∧x∈qY d (nth os (b+1)) 300 (nth os b)∧y=w'*32+x
 |0,w,y,h=>by simp[pY]at h
 |k+1,w,y,h=>by
  rw[pY,bi]at h;rcases h with h|h
  .obtain⟨x,hx,e⟩:=dh.1 h;exact⟨w,x,ai _,o_,hx,e.symm⟩
  .obtain⟨w',x,a,b,c,e⟩:=ZA h;exact⟨w',x,o_,o_,c,e⟩
def Rb {os:C_}{d n first:Nat}:∀{k b y:Nat},y∈xE os d n first k b->∃b',b<=b'∧b'<b+k∧y∈pY os d b' n first
 |0,b,y,h=>by simp[xE]at h
 |k+1,b,y,h=>by
  rw[xE,bi]at h;rcases h with h|h
  .exact⟨b,ai _,o_,h⟩
  .obtain⟨b',a,c,e⟩:=Rb h;exact⟨b',o_,o_,e⟩
def RY {os:C_}{n first:Nat}:∀{r:Q_}{b:Nat}{lf:Int}{p:Nat×Nat},fitsS lf r->p∈zS os n first r b->∃j,(aK r)[j]?=some (p.1:Int)∧(1<=p.1∧p.1<=11)∧p.2∈pY os (bB p.1) (b+j) n first
 |[],b,lf,p,_,h=>by simp[zS]at h
 |s::r,b,lf,p,hf,h=>by
  obtain⟨⟨⟨l1,l2⟩,b1,b2⟩,hf2⟩:=hf;have eb:aK (s::r)=List.replicate s.len.toNat s.book++aK r:=by rw[aK,aG];rfl
  rw[zS,bi]at h;rcases h with h|h
  .by_cases h0:s.book=0∨s.book=13
   .rw[ac h0]at h;simp at h
   .rw[aa h0]at h;obtain⟨y,hy,e⟩:=dh.1 h;subst e;obtain⟨b',c1,c2,c3⟩:=Rb hy;refine⟨b'-b,?_,by simp only[];omega,by rw[show b+(b'-b)=b' by omega];exact c3⟩;rw[eb,bZ g_,iM,ac o_];simp only[ae];omega
  .obtain⟨j,a,c,e⟩:=RY hf2 h;refine⟨s.len.toNat+j,?_,c,by rw[<-dr];exact e⟩;rw[eb,ct s_,bn,fL];exact a
def Kz {os:C_}{m:Int}:∀{r:H_}{q:G_}{first:Nat}{p:Nat×Nat},fk m r->(∀n∈q,1<=n)->p∈pB os r q first->∃(w g j:Nat) (l:Q_),r[g]?=some l∧first<=w∧(w:Int)<first+q.sum∧kp q ((w:Int)-first)=g∧(aK l)[j]?=some (p.1:Int)∧(1<=p.1∧p.1<=11)∧∃x∈qY (bB p.1) (nth os (j+1)) 300 (nth os j),p.2=w*32+x
 |[],q,first,p,_,_,h=>by simp[pB]at h
 |l::r,[],first,p,_,_,h=>by simp[pB]at h
 |l::r,n::q,first,p,hf,hn,h=>by
  have hn1:=hn n (.head _);have hqs:0<=q.sum:=by have:=kO λx hx=>hn x (.tail _ hx);omega
  rw[pB,bi]at h;rw[j7];rcases h with h|h
  .obtain⟨j,a,c,e⟩:=RY (hf l (.head _)) h;rw[br]at e;obtain⟨w,x,e1,e2,e3,e4⟩:=ZA e;refine⟨w,0,j,l,rfl,e1,o_,?_,a,c,x,e3,e4⟩;rw[kp,ac o_]
  .obtain⟨w,g,j,l',e1,e2,e3,e4,e5,e6,e7⟩:=Kz (λx hx=>hf x (.tail _ hx)) (λx hx=>hn x (.tail _ hx)) h;refine⟨w,g+1,j,l',by simpa using e1,o_,o_,?_,e5,e6,e7⟩;rw[kp,aa o_];have:(w:Int)-first-n=(w:Int)-((first+n.toNat:Nat):Int):=o_
   rw[this,e4]
def mX:∀x∈FH,((List.range ((offs x.1 x.2).length-1)).all λj=>decide (nth (offs x.1 x.2) j<nth (offs x.1 x.2) (j+1)) && decide ((nth (offs x.1 x.2) (j+1)-nth (offs x.1 x.2) j) % 4=0))=true∧nth (offs x.1 x.2) 0=0∧(offs x.1 x.2).all (λy=>decide (y<=cond x.2 32 256))=true:=e_
def PL {tl:C_}{bks:G_}:∀{ls:G_}{i j:Nat}{v:Int},uZ tl bks i ls->ls[j]?=some v->Kv tl bks (i+j) v
 |[],i,j,v,_,h=>by simp at h
 |u::r,i,0,v,h,e=>by
  simp only[bX,ae]at e;subst e;exact h.1
 |u::r,i,j+1,v,h,e=>by
  have:=PL (j:=j) h.2 (by simpa using e);rw[show i+(j+1)=i+1+j by omega];exact this
def QD {r:Nat}{c:cS}:∀{k w w':Nat},HG r c k w->w<=w'->w'<w+k->uZ ((offs r c.info.short).drop 1) (aK (vK c w')) 0 (xj c w')
 |0,w,w',_,h1,h2=>by omega
 |k+1,w,w',h,h1,h2=>by
  rcases bt w w' with h3|h3
  .exact QD h.2 h3 (by omega)
  .have:w'=w:=o_;subst this;exact h.1
def agu {os:C_}{b i:Nat}(hs:∀j,j+1<os.length->nth os j<nth os (j+1))(hb:b+1<os.length)(h1:nth os b<=i)(h2:i<nth os (b+1)):li (os.drop 1) i=b:=by
 have hmono:∀k j,j+k<os.length->nth os j<=nth os (j+k):=by
  intro k
  induction k with
  |zero=>intro j _;exact ai _
  |succ k ih =>
   intro j hj;have a:=ih j o_;have b:=hs (j+k) o_;rw[show j+(k+1)=j+k+1 by omega];omega
 have hlen:(os.drop 1).length=os.length-1:=s_;rw[VG (b:=b) o_ ?_]
 .have hdd:(os.drop 1).drop b=os.drop (b+1):=by rw[lH];congr 1;omega
  rw[hdd,pP hb,li,aa o_];rfl
 .intro x hx;obtain⟨j,hj,e⟩:=gY.1 hx;have hj2:j<b:=by have:=hj;simp only[cV]at this;omega
  rw[rq,List.getElem_drop]at e;have hn:nth os (1+j)=x:=by
   have h9:=zk (l:=os) (i:=1+j) o_;rw[bx o_,e]at h9;injection h9 with h9;exact h9.symm
  have:=hmono (b-(1+j)) (1+j) o_;rw[show 1+j+(b-(1+j))=b by omega]at this;omega
def PM {r:Nat}{c:cS}(hc:c.Fit)(h:lL r c)(hr:r<=11){p:Nat×Nat}(hp:p∈pB (offs r c.info.short) c.sects c.info.groups 0):(1<=p.1∧p.1<=11)∧p.2+bB p.1<=256∧LQ p.1 ((c.lines.drop p.2).take (bB p.1)):=by
 have hm11:=fG hr h.info;obtain⟨g1,g2⟩:=dp hm11;obtain⟨w,g,j,l,e1,e2,e3,e4,e5,e6,x,e7,e8⟩:=Kz h.sects.2 (λn hn=>(g1 n hn).1) hp;obtain⟨o1,o2,o3⟩:=mX (r,c.info.short) (fh o_);simp only at o1 o2 o3;have hmx:=h.info.2.2.2.1;have hlm:l∈c.sects:=eu e1;have hbl:=rV (h.sects.2 l hlm) h.info.2.2.1;have hjl:j<(aK l).length:=(aH.1 e5).1;have hmy:qA r (decide (c.info.seq=2))=(offs r c.info.short).length-1:=rfl;have hj1:j+1<(offs r c.info.short).length:=o_;have hoj:nth (offs r c.info.short) j<nth (offs r c.info.short) (j+1)∧(nth (offs r c.info.short) (j+1)-nth (offs r c.info.short) j) % 4=0:=by
  have:=bC.1 o1 j (dL.2 o_);simpa using this
 have hos:∀k,k+1<(offs r c.info.short).length->nth (offs r c.info.short) k<nth (offs r c.info.short) (k+1):=λk hk=>by
  have:=bC.1 o1 k (dL.2 o_);simp only[af,decide_eq_true_eq]at this;exact this.1
 have hd4:bB p.1=4∨bB p.1=2:=by unfold bB;split<;>simp
 have hx:=Lp (d:=bB p.1) o_ (by rcases hd4 with h|h<;>rw[h]<;>omega) e7;have hw:(w:Int)<c.info.many:=o_;have ho256:nth (offs r c.info.short) (j+1)<=cond c.info.short 32 256:=by
  have:=bC.1 o3 _ (iP hj1);simpa using this
 have hcond:(cond c.info.short 32 256:Nat)=c.info.wide:=by
  unfold aM.short aM.wide;by_cases h:c.info.seq=2
  .rw[decide_eq_true h,ac h];rfl
  .rw[decide_eq_false h,aa h];rfl
 rw[hcond]at ho256;have hww:w*32=w*c.info.wide∧w*c.info.wide+c.info.wide<=256:=by
  unfold aM.many at hw;unfold aM.wide;split at hw
  .rename_i h2;rw[ac h2];omega
  .rename_i h2;rw[aa h2];omega
 have hl:=h.lines.1;have hle:p.2+bB p.1<=256:=o_;refine⟨e6,hle,?_,λv hv=>?_⟩
 .rw[cV,dZ];omega
 .obtain⟨k,hk,ek⟩:=gY.1 hv;have hk2:k<bB p.1:=by have:=hk;simp only[cV]at this;omega
  rw[rq,List.getElem_drop]at ek;have hf:=QD h.lines.2 (w':=w) o_ o_;have hwl:(xj c w)[x+k]?=some v:=by
   unfold xj;rw[iR,ac o_,bW,show w*c.info.wide+(x+k)=p.2+k by omega,bx o_,ek]
  have hlo:=PL hf hwl;rw[br]at hlo;have hgr:kp c.info.groups w=g:=by rw[<-e4];congr 1
  have hsa:vK c w=l:=by
   unfold vK;rw[hgr,j5,e1];rfl
  have hba:=agu (i:=x+k) hos hj1 o_ o_;unfold Kv at hlo;rw[hsa,hba,e5]at hlo;rcases hlo with h0|⟨k',a1,a2,a3⟩
  .subst h0;simp
  .injection a1 with a1
   subst a1;simpa using a3
abbrev FQ (c:cS)(os:C_)(q:Obj)(C:D_)(v:AV)(T:am):am :=
 (0,.cells c.av)::(1,.cells C)::(2,.cells [.ptr 1 0])::(3,.cells [v])::(4,.cells c.info.cells)::(5,.cells [.d (.lst (bF c.sects))])::(6,.cells [.own false 1 (cN os)])::(7,q)::T
abbrev axx (x0:AV):aV:=[(0,x0),(6,.ptr 0 0),(11,.ptr 2 0),(12,.ptr 3 0),(86,.fn iw [] [.ptr 5 0,.ptr 4 0,.ptr 6 0])]
abbrev Rc (x0:AV):Obj:=.loop (axx x0) [87] u4 vQ false none
def uT (c:cS)(p:Nat×Nat):C_:=AM p.1 ((c.lines.drop p.2).take (bB p.1))
def abb {id:Nat}(hid:1<=id∧id<=11){vs:G_}(hv:LQ id vs):1<=(AM id vs).length∧(AM id vs).length<=200:=by
 have hok:jf id:=o_;obtain⟨m1,m2,m3,m4⟩:=AL id (Rl hid);obtain⟨f1,f2⟩:=Nb hid hv;have hd4:bB id<=4:=by unfold bB;split<;>omega
 have hvl:=hv.1;have hv8:∀v∈vs,v.natAbs<=8191:=λv h=>aL (hv.2 v h) m4
 have hmany:bh id=cu id ^ dX id:=rfl;unfold AM;by_cases hs:j8 id=true
 .have hin:=f1 hs;have hlt:=Gk (n:=0) (j:=0) hin.2 s_;rw[br,hin.1,<-hmany]at hlt;have:=zU hok hlt;rw[ac hs];omega
 .have hin:=f2 (by simpa using hs);have hlt:=Gk (n:=0) (j:=0) hin.2 s_;rw[br,hin.1,<-hmany]at hlt;have:=zU hok hlt;have hsl:=afk (vs:=vs);have hel:=Ul (id:=id) hv8;rw[aa hs];simp only[al];omega
def av3 {m:Nat}{xs ys:E_}(hl:xs.length+ys.length<=1000000000):∃v,(∀h,et m h (aD m xs) ys=some (v,h))∧firm v=aD m (xs++ys):=by
 obtain⟨v,h1,h2⟩:=am9 (m:=m) (h:=[]) hl;refine⟨v,λh=>?_,h2⟩
 cases xs with
 |nil =>
  cases ys with
  |nil=>injection h1 with h1;injection h1 with h1;subst h1;rfl
  |cons y r =>
   simp only[pD,asM,Zv,aW]at h1⊢;split at h1
   .rename_i h9;rw[ac h9];injection h1 with h1;injection h1 with h1;subst h1;rfl
   .exact absurd h1 (by simp)
 |cons x r =>
  simp only[aaQ,aiB,Zv,ajr,ajc,aW]at h1⊢;split at h1
  .rename_i h9;rw[ac h9];split at h1
   .rename_i h8;rw[ac h8];split at h1
    .rename_i h7;rw[ac h7];injection h1 with h1;injection h1 with h1;subst h1;rfl
    .exact absurd h1 (by simp)
   .exact absurd h1 (by simp)
  .exact absurd h1 (by simp)
def aA8 (c:cS)(hl:c.lines.length=256)(os:C_)(x0:AV)(hx0:share x0=x0)(p:Nat×Nat)(hp:(1<=p.1∧p.1<=11)∧p.2+bB p.1<=256∧LQ p.1 ((c.lines.drop p.2).take (bB p.1)))(C:D_)(hC:FV C)(acc:C_)(hacc:acc.length<=900000000)(K:Nat)(o:Obj)(hK:8<=K)(N:Nat)(hN:K<N) :
  b7 (Dn prog) (.yield 7) [.agg [A_ (p.1:Int),A_ (p.2:Int),A_ ((p.2+bB p.1:Nat):Int)]] ⟨FQ c os (Rc x0) C (aD 1 (ak acc)) [(K,o)],N⟩=some (B_ true,⟨FQ c os (Rc x0) (aE C (4*p.1) (qC p.1)) (aD 1 (ak (acc++uT c p))) [(K,o)],N+1+1⟩):=by
 obtain⟨h1,h2,h3⟩:=hp;have hH:=ari [] s_ .nl (.inr ⟨rfl,rfl⟩) p.1 h1 _ h3;have hhl:=abb h1 h3;rw[aO]at hH;have hsl:=λh=>agy (h:=h) (l:=c.lines) (a:=p.2) (b:=p.2+bB p.1) o_ o_ (p.2:Int) ((p.2+bB p.1:Nat):Int) rfl rfl
 simp only[fL]at hsl;have hBk:Bk (λC T=>FQ c os (.loop (axx x0) [87] u4 vQ true none) C (aD 1 (ak acc)) ([(K,o),(N,.cells [A_ (p.1:Int),A_ (p.2:Int),A_ ((p.2+bB p.1:Nat):Int)])]++T)) 1 (N+1):=by
  have hK0:K≠0∧K≠1∧K≠2:=o_;constructor
  .intro C T;simp
  .intro C T C';simp
  .intro C o;simp(disch:=omega)[↓aa]
  .intro C o o';simp(disch:=omega)[↓aa]
  .intro C o;simp(disch:=omega)[↓aa]
  .intro C o;simp(disch:=omega)[↓aa]
 have hB:=O9 hBk C hC p.1 h1;generalize aE C (4*p.1) (qC p.1)=C2 at *;have hbl:(ak (uT c p)).length=(uT c p).length:=cP;have hba:(ak acc).length=acc.length:=cP;obtain⟨wv,hw1,hw2⟩:=av3 (m:=1) (xs:=ak acc) (ys:=ak (uT c p)) (by unfold uT;unfold uT at hbl;omega);have hne:ak (acc++uT c p)≠[]:=by
  intro h;have:=bl List.length h;rw[cP,al,bD]at this;unfold uT at this;omega
 rw[ads,kN hne]at hw2;rw[kN hne];have hLB:AM p.1 ((c.lines.drop p.2).take (bB p.1))=uT c p:=rfl;rw[hLB]at hH;simp only[mS,be]at hB hH;simp only[FQ,cS.av,aM.cells,aR,aO,PW,P3]at hB⊢;generalize uT c p=LB at *;generalize (c.lines.drop p.2).take (bB p.1)=LS at *;generalize ((p.2+bB p.1:Nat):Int)=TO at *;simp(config := { maxSteps:=1000000 }) (disch:=omega)[PW,P3,↓ac,↓aa,hx0,hsl,hH,hB,hw1,hw2]
def azs (c:cS)(hl:c.lines.length=256)(os:C_)(x0:AV)(hx0:share x0=x0)(TOT:C_)(hT:TOT.length<=900000000):Pa (fun(s:D_×C_) T=>FQ c os (Rc x0) s.1 (aD 1 (ak s.2)) T) noH 8 7 (λp s=>.inl (aE s.1 (4*p.1) (qC p.1),s.2++uT c p))
  (λr s=>FV s.1∧s.2++r.flatMap (uT c)=TOT∧∀p∈r,(1<=p.1∧p.1<=11)∧p.2+bB p.1<=256∧LQ p.1 ((c.lines.drop p.2).take (bB p.1))):=by
 intro p r s K o N hi hK hN;obtain⟨i1,i2,i3⟩:=hi;have hp:=i3 p (.head _);have hal:s.2.length<=900000000:=by rw[<-i2,al]at hT;omega
 refine .inl ⟨_,N+1+1,o_,rfl,⟨abf i1 hp.1,?_,λq hq=>i3 q (.tail _ hq)⟩,aA8 c hl os x0 hx0 p hp s.1 i1 s.2 hal K o hK N hN⟩;rw[aG,<-ay]at i2;exact i2
def aCJ {c:cS}{os:C_}{x0:AV}:Tl (fun(s:D_×C_) T=>FQ c os (Rc x0) s.1 (aD 1 (ak s.2)) T) 8:=by
 constructor
 .intro s K o h;simp(disch:=omega)[↓aa]
 .intro s K o o' h;simp(disch:=omega)[↓aa]
 .intro s K o h;simp(disch:=omega)[↓aa]
 .intro s K o h;simp(disch:=omega)[↓aa]
def mz (r:Nat)(c:cS):C_:=(pB (offs r c.info.short) c.sects c.info.groups 0).flatMap (uT c)
abbrev tT:D_:=[A_ 0,A_ 0,.nl,.nl,A_ 0,A_ 0,.nl,.nl,A_ 0,A_ 0,.nl,.nl,A_ 0,A_ 0,.nl,.nl,A_ 0,A_ 0,.nl,.nl,A_ 0,A_ 0,.nl,.nl,A_ 0,A_ 0,.nl,.nl,A_ 0,A_ 0,.nl,.nl,A_ 0,A_ 0,.nl,.nl,A_ 0,A_ 0,.nl,.nl,A_ 0,A_ 0,.nl,.nl,A_ 0,A_ 0,.nl,.nl]
def aer:FV tT:=by
 refine⟨rfl,λid hid=>.inl ?_⟩;obtain rfl|rfl|rfl|rfl|rfl|rfl|rfl|rfl|rfl|rfl|rfl|rfl:id=0∨id=1∨id=2∨id=3∨id=4∨id=5∨id=6∨id=7∨id=8∨id=9∨id=10∨id=11:=o_
 all_goals rfl
def apK (r:Nat)(hr:r<=11)(c:cS)(hc:c.Fit)(h:lL r c)(x0:AV)(hx0:share x0=x0)(hlen:(mz r c).length<=900000000):∃C2 M,(Dn prog).call iw [.yield 7,.ptr 5 0,.ptr 4 0,.ptr 6 0] ⟨FQ c (offs r c.info.short) (Rc x0) tT .nl [],8⟩=some (.tup [],⟨FQ c (offs r c.info.short) (Rc x0) C2 (aD 1 (ak (mz r c))) [],M⟩):=by
 obtain⟨o1,o2,o3,o4⟩:=zM (r,c.info.short) (fh o_);obtain⟨p1,p2,p3⟩:=mX (r,c.info.short) (fh o_);simp only at o1 o2 o3 o4 p1 p2 p3;have hmx:=h.info.2.2.2.1;have hmy:qA r (decide (c.info.seq=2))=(offs r c.info.short).length-1:=rfl;have hhi:∀x∈offs r c.info.short,x<=256:=λx hx=>by
  have:=bC.1 p3 x hx;simp only[decide_eq_true_eq]at this;have:(cond c.info.short 32 256:Nat)<=256:=by cases c.info.short<;>decide
  omega
 have hpl:=adX (P:=⟨7,4,6,c.sects,offs r c.info.short⟩) c.info hc.info (fG hr h.info) 5 (aCJ (c:=c) (os:=offs r c.info.short) (x0:=x0)) alr (azs c h.lines.1 (offs r c.info.short) x0 hx0 (mz r c) hlen) (λs=>by simp) (λs T=>by simp) (λs T=>by simp) t_ hhi t_ h.sects 8 (ai _) (tT,[]) ⟨aer,by simp only[mz,aO],λp hp=>PM hc h hr hp⟩;rcases hpl with ⟨s2,M,hM,e1,⟨e2,e3,e4⟩,e5⟩|⟨z,_⟩
 .rw[fR,be]at e3;rw[e3]at e5;exact⟨s2.1,M,e5⟩
 .exact nomatch z
end Go.Vm
end
