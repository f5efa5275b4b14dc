import Derived.Test.YtpidphkolofkfaaGreatP3
set_option linter.unusedVariables false
set_option linter.unusedSimpArgs false
set_option linter.defProp false
set_option linter.unusedSectionVars false
noncomputable section
namespace Go.Vm
set_option maxRecDepth 100000
set_option maxHeartbeats 4000000
abbrev fV:=@Bool.not_eq_true
abbrev bU:=@List.getElem?_map
abbrev kU:=@List.getElem?_range
def Q5 (x:Nat):br prog GM [.d (.int .u8 x)]=some (B_ false):=by
 rw[aJ TY TR rfl];simp (maxSteps:=300000) (disch:=omega) [↓ac,↓aa]
def ah0 (x y:Nat):br prog Df [.d (.int .u8 x),.d (.int .u8 y)]=some (A_ (if x<y then -1 else if y<x then 1 else 0)):=by
 rw[aJ Qi Qc rfl];by_cases h1:x<y
 .rw[ac h1];simp (maxSteps:=300000) (disch:=omega) [↓ac,↓aa,Q5]
 .rw[aa h1];by_cases h2:y<x
  .rw[ac h2];simp (maxSteps:=300000) (disch:=omega) [↓ac,↓aa,Q5]
  .rw[aa h2];simp (maxSteps:=300000) (disch:=omega) [↓ac,↓aa,Q5]
@[simp] def aCY {len n S o:Nat}{k:IntKind}{z:Int}(h0:0<=z) (h:z<len):JB len n (.ptr S o) (.d (.int k z))=some (.ptr S (o+z.toNat*n)):=by
 obtain⟨i,rfl⟩:=aB h0;have hl:Nat.ble len i=false:=by rw[<-fV,bj];omega
 show (match Nat.ble len i with | true=>none | false=>ir (i*n) (.ptr S o))=_;rw[hl];rfl
def jI (id:Nat):C_:=(List.range (bm id)).map fun e=>zx id e
def cC (l:C_) (x y:Nat):Int:=if nth l x<nth l y then -1 else if nth l y<nth l x then 1 else 0
def sf (id:Nat):D_:=(List.range 289).map fun e=>.d (.int .u8 (if e<bm id then zx id e else 0:Nat))
def aaY {id:Nat}:(sf id).length=289:=by simp[sf]
def aam {id x:Nat}(h:x<bm id) (h2:bm id<=289):(sf id)[x]?=some (.d (.int .u8 (nth (jI id) x:Nat))):=by
 have e:nth (jI id) x=zx id x:=by
  have:=AS (l:=jI id) (i:=x) (by simp[jI];exact h);rw[jI,bU,kU h]at this;simpa [jI] using this.symm
 rw[e,sf,bU,kU o_];simp[h]
def aDi {hp:C_->ak}{S id:Nat}(hS:∀ xs,get (hp xs) S=some (.cells (sf id))) (h2:bm id<=289):Cm hp (bm id) (.fn Jf [] [.ptr S 0]) (cC (jI id)) where
 sh:=rfl
 fi:=rfl
 cl xs N x y hx hy:=by
  have e1:=aam hx h2;have e2:=aam hy h2;show (Dn prog).call Jf ([]++([A_ (x:Nat),A_ (y:Nat)]++[.ptr S 0])) ⟨hp xs,N⟩=_;simp only[aO,aQ];rw[ba aeW afx rfl];generalize sf id=Z at *;simp (maxSteps:=300000) (disch:=omega) [↓ac,↓aa,hS,e1,e2,ah0,cC]
noncomputable section
def ayR {k i:Nat}(h:k=i):Nat.beq k i=true:=by rw[aC];exact h
def azE {k i:Nat}(h:¬ k=i):Nat.beq k i=false:=by rw[<-fV,aC];exact h
def mP (l:C_):Nat->Nat:=List.rec (motive:=fun _=>Nat->Nat) (fun _=>0) (fun x _ ih i=>Nat.casesOn (motive:=fun _=>Nat) i x (fun k=>ih k)) l
def Bb:∀ (l:C_) (i:Nat),mP l i=nth l i
 | [],i=>by simp[nth];rfl
 | x::l,0=>rfl
 | x::l,i+1=>Bb l i
def aln (l:C_):Nat->Nat->C_:=List.rec (motive:=fun _=>Nat->Nat->C_) (fun _ _=>[]) (fun x r ih i v=>Nat.casesOn (motive:=fun _=>C_) i (v::r) (fun k=>x::ih k v)) l
def aj8:∀ (l:C_) (i v:Nat),aln l i v=l.set i v
 | [],i,v=>rfl
 | x::l,0,v=>rfl
 | x::l,i+1,v=>by
  show x::aln l i v=_;rw[aj8 l i v];rfl
def aao (xs:C_) (i j:Nat):C_:=aln (aln xs i (mP xs j)) j (mP xs i)
def SH (xs:C_) (i j:Nat):aao xs i j=swp xs i j:=by simp only[aao,swp,aj8,Bb]
def Ub (l:C_) (x y:Nat):Bool:=Nat.ble (Nat.succ (mP l x)) (mP l y)
def Fs (l:C_) (x y:Nat):(Ub l x y=true)=(cC l x y<0):=by
 simp only[Ub,Bb,bj,cC];apply propext;constructor
 .intro h;rw[ac o_];omega
 .intro h;split at h
  .omega
  .split at h<;>omega
def SD (a b:Nat):Nat->Nat->C_->C_
 | 0,_,xs=>xs
 | k+1,i,xs=>SD a b k (i+1) (aao xs (a+i) (b+i))
def OH {a b:Nat}:∀ (k i:Nat) (xs:C_),SD a b k i xs=swpR xs a b k i
 | 0,_,_=>rfl
 | k+1,i,xs=>by rw[SD,swpR,SH,OH]
def aeK (m:Nat):Nat->C_->Nat->Nat->C_
 | 0,xs,i,j=>xs
 | f+1,xs,i,j=>match Nat.beq i j with
  | true=>SD (m-i) m i 0 xs
  | false=>match Nat.ble i j with
   | true=>aeK m f (SD (m-i) (m+j-i) i 0 xs) i (j-i)
   | false=>aeK m f (SD (m-i) m j 0 xs) (i-j) j
def aa7 {m:Nat}:∀ (f:Nat) (xs:C_) (i j:Nat),aeK m f xs i j=rot m f xs i j
 | 0,_,_,_=>rfl
 | f+1,xs,i,j=>by
  rw[aeK,rot];by_cases h:i=j
  .rw[ayR h,ac h,OH]
  .rw[azE h,aa h];by_cases h2:j<i
   .rw[show Nat.ble i j=false by rw[<-fV,bj];omega,ac h2];simp only[aa7,OH]
   .rw[cP (by omega:i<=j),aa h2];simp only[aa7,OH]
section
variable (l:C_)
def aen (a:Nat):Nat->C_->C_
 | 0,xs=>xs
 | j+1,xs=>match Nat.ble a j with
  | false=>xs
  | true=>match Ub l (mP xs (j+1)) (mP xs j) with
   | true=>aen a j (aao xs (j+1) j)
   | false=>xs
def agO {a:Nat}:∀ (j:Nat) (xs:C_),aen l a j xs=insJ (cC l) a j xs
 | 0,_=>rfl
 | j+1,xs=>by
  rw[aen,insJ];by_cases h:a<=j
  .rw[cP h];simp only[Bb]
   cases h2:Ub l (nth xs (j+1)) (nth xs j) with
   | true=>rw[ac ⟨h,by rw[<-Fs];exact h2⟩,<-agO,SH]
   | false=>rw[aa (fun q=>by have:=q.2;rw[<-Fs,h2]at this;exact absurd this s_)]
  .rw[show Nat.ble a j=false by rw[<-fV,bj];exact h,aa (fun q=>h q.1)]
def Yc (a:Nat):Nat->Nat->C_->C_
 | 0,_,xs=>xs
 | k+1,i,xs=>Yc a k (i+1) (aen l a i xs)
def Wg {a:Nat}:∀ (k i:Nat) (xs:C_),Yc l a k i xs=insO (cC l) a k i xs
 | 0,_,_=>rfl
 | k+1,i,xs=>by rw[Yc,insO,agO,Wg]
def ahd (xs:C_) (a:Nat):Nat->Nat->Nat->Nat
 | 0,i,_=>i
 | f+1,i,j=>match Nat.ble j i with
  | true=>i
  | false=>match Ub l (mP xs ((i+j) / 2)) (mP xs a) with
   | true=>ahd xs a f ((i+j) / 2+1) j
   | false=>ahd xs a f i ((i+j) / 2)
def abA {xs:C_}{a:Nat}:∀ (f i j:Nat),ahd l xs a f i j=MH (cC l) xs a f i j
 | 0,_,_=>rfl
 | f+1,i,j=>by
  rw[ahd,MH];by_cases h:i<j
  .rw[show Nat.ble j i=false by rw[<-fV,bj];omega,ac h];simp only[Bb]
   cases h2:Ub l (nth xs ((i+j) / 2)) (nth xs a) with
   | true=>rw[ac (by rw[<-Fs];exact h2)];simp only[abA]
   | false=>rw[aa (by rw[<-Fs,h2];simp)];simp only[abA]
  .rw[cP (by omega:j<=i),aa h]
def agn (xs:C_) (m:Nat):Nat->Nat->Nat->Nat
 | 0,i,_=>i
 | f+1,i,j=>match Nat.ble j i with
  | true=>i
  | false=>match Ub l (mP xs m) (mP xs ((i+j) / 2)) with
   | true=>agn xs m f i ((i+j) / 2)
   | false=>agn xs m f ((i+j) / 2+1) j
def aac {xs:C_}{m:Nat}:∀ (f i j:Nat),agn l xs m f i j=Ml (cC l) xs m f i j
 | 0,_,_=>rfl
 | f+1,i,j=>by
  rw[agn,Ml];by_cases h:i<j
  .rw[show Nat.ble j i=false by rw[<-fV,bj];omega,ac h];simp only[Bb]
   cases h2:Ub l (nth xs m) (nth xs ((i+j) / 2)) with
   | true=>rw[ac (by rw[<-Fs];exact h2)];simp only[aac]
   | false=>rw[aa (by rw[<-Fs,h2];simp)];simp only[aac]
  .rw[cP (by omega:j<=i),aa h]
def aaX (xs:C_) (p:Nat):Nat->Nat->Nat->Nat
 | 0,i,_=>i
 | f+1,i,j=>match Nat.ble j i with
  | true=>i
  | false=>match Ub l (mP xs (p-(i+j) / 2)) (mP xs ((i+j) / 2)) with
   | true=>aaX xs p f i ((i+j) / 2)
   | false=>aaX xs p f ((i+j) / 2+1) j
def aa6 {xs:C_}{p:Nat}:∀ (f i j:Nat),aaX l xs p f i j=sX (cC l) xs p f i j
 | 0,_,_=>rfl
 | f+1,i,j=>by
  rw[aaX,sX];by_cases h:i<j
  .rw[show Nat.ble j i=false by rw[<-fV,bj];omega,ac h];simp only[Bb]
   cases h2:Ub l (nth xs (p-(i+j) / 2)) (nth xs ((i+j) / 2)) with
   | true=>rw[ac (by rw[<-Fs];exact h2)];simp only[aa6]
   | false=>rw[aa (by rw[<-Fs,h2];simp)];simp only[aa6]
  .rw[cP (by omega:j<=i),aa h]
def alJ:Nat->Nat->C_->C_
 | 0,_,xs=>xs
 | n+1,k,xs=>alJ n (k+1) (aao xs k (k+1))
def akh:∀ (n k:Nat) (xs:C_),alJ n k xs=shU n k xs
 | 0,_,_=>rfl
 | n+1,k,xs=>by rw[alJ,shU,SH,akh]
def anb:Nat->Nat->C_->C_
 | 0,_,xs=>xs
 | n+1,k,xs=>anb n (k-1) (aao xs k (k-1))
def akO:∀ (n k:Nat) (xs:C_),anb n k xs=shD n k xs
 | 0,_,_=>rfl
 | n+1,k,xs=>by rw[anb,shD,SH,akO]
def SW:Nat->C_->Nat->Nat->Nat->C_
 | 0,xs,_,_,_=>xs
 | f+1,xs,a,m,b =>
  if m-a=1 then alJ (ahd l xs a (b-m) m b-1-a) a xs
  else if b-m=1 then anb (m-agn l xs m (m-a) a m) m xs
  else
   let s:=if (a+b) / 2<m then aaX l xs ((a+b) / 2+m-1) (b-a) ((a+b) / 2+m-b) ((a+b) / 2) else aaX l xs ((a+b) / 2+m-1) (b-a) a m
   let e:=(a+b) / 2+m-s
   let ys:=if s<m∧m<e then aeK m (e-s) xs (m-s) (e-m) else xs
   let zs:=if a<s∧s<(a+b) / 2 then SW f ys a s ((a+b) / 2) else ys
   if (a+b) / 2<e∧e<b then SW f zs ((a+b) / 2) e b else zs
def V6:∀ (f:Nat) (xs:C_) (a m b:Nat),SW l f xs a m b=symM (cC l) f xs a m b
 | 0,_,_,_,_=>rfl
 | f+1,xs,a,m,b=>by
  rw[SW,symM];simp only[akh,akO,abA,aac,aa6,aa7,V6 f]
def agp (n:Nat):Nat->C_->Nat->C_×Nat
 | 0,xs,a=>(xs,a)
 | f+1,xs,a=>if a+20<=n then agp n f (Yc l a 19 (a+1) xs) (a+20) else (xs,a)
def ak1 {n:Nat}:∀ (f:Nat) (xs:C_) (a:Nat),agp l n f xs a=J7 (cC l) n f xs a
 | 0,_,_=>rfl
 | f+1,xs,a=>by rw[agp,J7];simp only[Wg,ak1 f]
def afo (n bs:Nat):Nat->C_->Nat->C_×Nat
 | 0,xs,a=>(xs,a)
 | f+1,xs,a=>if a+2*bs<=n then afo n bs f (SW l (2*bs) xs a (a+bs) (a+2*bs)) (a+2*bs) else (xs,a)
def aj4 {n bs:Nat}:∀ (f:Nat) (xs:C_) (a:Nat),afo l n bs f xs a=Pi (cC l) n bs f xs a
 | 0,_,_=>rfl
 | f+1,xs,a=>by rw[afo,Pi];simp only[V6,aj4 f]
def am5 (n bs:Nat) (p:C_×Nat):C_:=if p.2+bs<n then SW l (n-p.2) p.1 p.2 (p.2+bs) n else p.1
def awL {n bs:Nat}(p:C_×Nat):am5 l n bs p=stE (cC l) n bs p:=by rw[am5,stE];simp only[V6]
def aro (n:Nat) (p:C_×Nat):C_:=Yc l p.2 (n-(p.2+1)) (p.2+1) p.1
def auD {n:Nat}(p:C_×Nat):aro l n p=stS (cC l) n p:=Wg l _ _ _
def RR (n:Nat):Nat->C_->Nat->C_
 | 0,xs,_=>xs
 | f+1,xs,bs=>if bs<n then RR n f (am5 l n bs (afo l n bs n xs 0)) (2*bs) else xs
def ak3 {n:Nat}:∀ (f:Nat) (xs:C_) (bs:Nat),RR l n f xs bs=Xv (cC l) n f xs bs
 | 0,_,_=>rfl
 | f+1,xs,bs=>by rw[RR,Xv];simp only[awL,aj4,ak3 f]
def Z4 (n:Nat) (xs:C_):C_:=RR l n n (aro l n (agp l n n xs 0)) 20
def ua {n:Nat}(xs:C_):Z4 l n xs=sH (cC l) n xs:=by rw[Z4,sH,ak3,auD,ak1]
def rnd (n bs:Nat) (xs:C_):C_:=am5 l n bs (afo l n bs n xs 0)
end
end
def st1:sH (cC (jI 1)) (bm 1) (List.range (bm 1))=cg 1:=by rw[<-ua];decide +kernel
def st3:sH (cC (jI 3)) (bm 3) (List.range (bm 3))=cg 3:=by rw[<-ua];decide +kernel
def st5:sH (cC (jI 5)) (bm 5) (List.range (bm 5))=cg 5:=by rw[<-ua];decide +kernel
def st7:sH (cC (jI 7)) (bm 7) (List.range (bm 7))=cg 7:=by rw[<-ua];decide +kernel
def aCV:sH (cC (jI 12)) (bm 12) (List.range (bm 12))=cg 12:=by rw[<-ua];decide +kernel
def st9:sH (cC (jI 9)) (bm 9) (List.range (bm 9))=cg 9:=by rw[<-ua];decide +kernel
noncomputable section
def atB:C_:=[0,1,17,2,18,3,19,4,5,6,7,8,9,10,11,12,13,14,15,16,34,35,20,36,21,37,22,38,23,39,24,25,26,27,28,29,30,31,32,33,51,52,53,54,55,40,56,41,57,42,58,43,59,44,45,46,47,48,49,50,68,69,70,71,72,73,74,75,60,76,61,77,62,78,63,79,64,65,66,67,85,86,87,88,89,90,91,92,93,94,95,80,96,81,97,82,98,83,99,84,102,103,119,104,105,106,107,108,109,110,111,112,113,114,115,100,116,101,117,118,120,136,121,137,122,138,123,139,124,125,126,127,128,129,130,131,132,133,134,135,153,154,155,140,156,141,157,142,158,143,159,144,145,146,147,148,149,150,151,152,170,171,172,173,174,175,160,176,161,177,162,178,163,179,164,165,166,167,168,169,187,188,189,190,191,192,193,194,195,180,196,181,197,182,198,183,199,184,185,186,204,205,206,207,208,209,210,211,212,213,214,215,200,216,201,217,202,218,203,219,221,222,238,223,239,224,225,226,227,228,229,230,231,232,233,234,235,220,236,237,255,240,256,241,257,242,258,243,259,244,245,246,247,248,249,250,251,252,253,254,272,273,274,275,260,276,261,277,262,278,263,279,264,265,266,267,268,269,270,271,280,281,282,283,284,285,286,287,288]
def atl:C_:=[0,1,17,2,18,34,3,19,35,4,20,36,5,21,37,6,22,38,7,23,39,8,24,9,25,10,26,11,27,12,28,13,29,14,30,15,31,16,32,33,51,52,68,53,69,54,70,55,71,40,56,72,41,57,73,42,58,74,43,59,75,44,60,76,45,61,77,46,62,78,47,63,79,48,64,49,65,50,66,67,85,86,102,87,103,119,88,104,89,105,90,106,91,107,92,108,93,109,94,110,95,111,80,96,112,81,97,113,82,98,114,83,99,115,84,100,116,101,117,118,120,136,121,137,153,122,138,154,123,139,155,124,140,156,125,141,157,126,142,158,127,143,159,128,144,129,145,130,146,131,147,132,148,133,149,134,150,135,151,152,170,171,187,172,188,173,189,174,190,175,191,160,176,192,161,177,193,162,178,194,163,179,195,164,180,196,165,181,197,166,182,198,167,183,199,168,184,169,185,186,204,205,221,206,222,238,207,223,239,208,224,209,225,210,226,211,227,212,228,213,229,214,230,215,231,200,216,232,201,217,233,202,218,234,203,219,235,220,236,237,255,240,256,272,241,257,273,242,258,274,243,259,275,244,260,276,245,261,277,246,262,278,247,263,279,248,264,249,265,250,266,251,267,252,268,253,269,254,270,271,280,281,282,283,284,285,286,287,288]
def atd:C_:=[0,1,17,2,18,34,3,19,35,51,4,20,36,52,68,5,21,37,53,69,6,22,38,54,70,7,23,39,55,71,8,24,40,56,72,9,25,41,57,73,10,26,42,58,74,11,27,43,59,75,12,28,44,60,76,13,29,45,61,77,14,30,46,62,78,15,31,47,63,79,16,32,48,64,33,49,65,50,66,67,85,86,102,87,103,119,88,104,120,136,89,105,121,137,153,90,106,122,138,154,91,107,123,139,155,92,108,124,140,156,93,109,125,141,157,94,110,126,142,158,95,111,127,143,159,80,96,112,128,144,81,97,113,129,145,82,98,114,130,146,83,99,115,131,147,84,100,116,132,148,101,117,133,149,118,134,150,135,151,152,170,171,187,172,188,204,173,189,205,221,174,190,206,222,238,175,191,207,223,239,160,176,192,208,224,161,177,193,209,225,162,178,194,210,226,163,179,195,211,227,164,180,196,212,228,165,181,197,213,229,166,182,198,214,230,167,183,199,215,231,168,184,200,216,232,169,185,201,217,233,186,202,218,234,203,219,235,220,236,237,255,240,256,272,241,257,273,242,258,274,243,259,275,244,260,276,245,261,277,246,262,278,247,263,279,248,264,280,249,265,281,250,266,282,251,267,283,252,268,284,253,269,285,254,270,286,271,287,288]
def atE:C_:=[0,1,17,2,18,34,3,19,35,51,4,20,36,52,68,5,21,37,53,69,85,6,22,38,54,70,86,102,7,23,39,55,71,87,103,119,8,24,40,56,72,88,104,120,136,9,25,41,57,73,89,105,121,137,153,10,26,42,58,74,90,106,122,138,154,11,27,43,59,75,91,107,123,139,155,12,28,44,60,76,92,108,124,140,156,13,29,45,61,77,93,109,125,141,157,14,30,46,62,78,94,110,126,142,158,15,31,47,63,79,95,111,127,143,159,16,32,48,64,80,96,112,128,144,33,49,65,81,97,113,129,145,50,66,82,98,114,130,146,67,83,99,115,131,147,84,100,116,132,148,101,117,133,149,118,134,150,135,151,152,170,171,187,172,188,204,173,189,205,221,174,190,206,222,238,175,191,207,223,239,255,160,176,192,208,224,240,256,272,161,177,193,209,225,241,257,273,162,178,194,210,226,242,258,274,163,179,195,211,227,243,259,275,164,180,196,212,228,244,260,276,165,181,197,213,229,245,261,277,166,182,198,214,230,246,262,278,167,183,199,215,231,247,263,279,168,184,200,216,232,248,264,280,169,185,201,217,233,249,265,281,186,202,218,234,250,266,282,203,219,235,251,267,283,220,236,252,268,284,237,253,269,285,254,270,286,271,287,288]
def az4:aro (jI 11) 289 (agp (jI 11) 289 289 (List.range 289) 0)=atB:=e_
def aAi:rnd (jI 11) 289 20 atB=atl:=e_
def aAx:rnd (jI 11) 289 40 atl=atd:=e_
def aAQ:rnd (jI 11) 289 80 atd=atE:=e_
def azD:rnd (jI 11) 289 160 atE=cg 11:=e_
def aCv:sH (cC (jI 11)) 289 (List.range 289)=cg 11:=by
 rw[<-ua,Z4,az4];have u:∀ (f:Nat) (xs:C_) (bs:Nat),bs<289->RR (jI 11) 289 (f+1) xs bs=RR (jI 11) 289 f (rnd (jI 11) 289 bs xs) (2*bs):=fun f xs bs h=>by rw[RR,ac h];rfl
 rw[u 288 _ _ o_,aAi,u 287 _ _ o_,aAx,u 286 _ _ o_,aAQ,u 285 _ _ o_,azD];rw[show (285:Nat)=284+1 from rfl,RR,aa o_]
end
abbrev cy:=@List.replicate_succ
abbrev nE:=@List.set_append_right
abbrev tY:=@Nat.sub_self
def ark:jI 2=jI 1∧jI 4=jI 3∧jI 6=jI 5∧jI 8=jI 7∧jI 10=jI 9:=⟨rfl,rfl,rfl,rfl,rfl⟩
def anz:cg 2=cg 1∧cg 4=cg 3∧cg 6=cg 5∧cg 8=cg 7∧cg 10=cg 9:=⟨rfl,rfl,rfl,rfl,rfl⟩
def axO (id:Nat) (h:ju id):sH (cC (jI id)) (bm id) (List.range (bm id))=cg id:=by
 obtain⟨p2,p4,p6,p8,p10⟩:=ark;obtain⟨q2,q4,q6,q8,q10⟩:=anz;have h1:id=1∨id=2∨id=3∨id=4∨id=5∨id=6∨id=7∨id=8∨id=9∨id=10∨id=11∨id=12:=o_;rcases h1 with rfl | rfl | rfl | rfl | rfl | rfl | rfl | rfl | rfl | rfl | rfl | rfl
 .exact st1
 .rw[p2,q2];exact st1
 .exact st3
 .rw[p4,q4];exact st3
 .exact st5
 .rw[p6,q6];exact st5
 .exact st7
 .rw[p8,q8];exact st7
 .exact st9
 .rw[p10,q10];exact st9
 .exact aCv
 .exact aCV
def ajY:∀ id∈ids,bm id<=289∧bm id % 20≠0∧1<=bm id:=e_
def rks (es:C_):Nat->Nat->C_->C_
 | 0,_,R=>R
 | k+1,i,R=>rks es k (i+1) (R.set (nth es i) i)
def au2:∀ id∈ids,rks (cg id) (bm id) 0 (List.replicate (bm id) 0)=dC id:=e_
def aka:∀ id∈ids,(cg id).length=bm id∧(dC id).length=bm id∧(cg id).all (fun e=>decide (e<bm id))=true:=e_
def Gv (n i:Nat):C_:=List.range i++List.replicate (n-i) 0
def asO {n i:Nat}(h:i<=n):(Gv n i).length=n:=by simp[Gv];omega
def asi {n i:Nat}(h:i<n):(Gv n i).set i i=Gv n (i+1):=by
 unfold Gv;obtain⟨k,hk⟩:∃ k,n-i=k+1:=⟨n-i-1,o_⟩
 rw[hk,cy,nE _ _ s_,rV,tY,List.set_cons_zero,List.range_succ,aA]
 congr 2
 rw[show n-(i+1)=k by omega];rfl
section
variable (id n:Nat) (Z:D_)
def aiu (hn:n<=289) (R:C_) (a b c d:AV) (x0 x1:D) (N:Nat):∀ (k i:Nat),i+k=n->
  (Dn prog).code (.loop zR) ⟨[(2,.ptr 0 0),(6,.ptr 4 0),(7,.ptr 5 0),(34,A_ n),(35,A_ i)],
   ⟨[(0,.cells [a,b,c,d]),(2,.arr 1 (cR (Gv n i))),(3,.arr 1 (cR R)),(4,.cells [.d x0,.d x1,.sl 2 0 n,.sl 3 0 n]),(5,.cells Z)],N⟩⟩ =
  some (.exit 0,⟨[(2,.ptr 0 0),(6,.ptr 4 0),(7,.ptr 5 0)],⟨[(0,.cells [a,b,c,d]),(2,.arr 1 (cR (Gv n n))),(3,.arr 1 (cR R)),(4,.cells [.d x0,.d x1,.sl 2 0 n,.sl 3 0 n]),(5,.cells Z)],N⟩⟩):=by
 intro k
 induction k with
 | zero =>
  intro i h;have:i=n:=o_;subst this;rw[ah PW];simp (maxSteps:=300000) (disch:=omega) [↓ac,↓aa]
 | succ k ih =>
  intro i h;have l:=asO (n:=n) (i:=i) o_;have h5:=ih (i+1) o_;have c1:((i+1:Nat):Int)=(i:Int)+1:=rfl;rw[c1]at h5;rw[ah PW,<-h5,<-asi o_];generalize Gv n i=xs at *;simp (maxSteps:=300000) (disch:=omega) [↓ac,↓aa]
def aic (hn:n<=289) (es:C_) (he:es.length=n) (hu:eK n es) (a b c d:AV) (x0 x1:D) (N:Nat):∀ (k i:Nat) (R:C_),i+k=n->R.length=n->
  (Dn prog).code (.loop zS) ⟨[(2,.ptr 0 0),(6,.ptr 4 0),(49,.sl 2 0 n),(50,A_ n),(51,A_ i)],
   ⟨[(0,.cells [a,b,c,d]),(2,.arr 1 (cR es)),(3,.arr 1 (cR R)),(4,.cells [.d x0,.d x1,.sl 2 0 n,.sl 3 0 n]),(5,.cells Z)],N⟩⟩ =
  some (.exit 2,⟨[(2,.ptr 0 0),(6,.ptr 4 0)],⟨[(0,.cells [a,b,c,d]),(2,.arr 1 (cR es)),(3,.arr 1 (cR (rks es k i R))),(4,.cells [.d x0,.d x1,.sl 2 0 n,.sl 3 0 n]),(5,.cells Z)],N⟩⟩):=by
 intro k
 induction k with
 | zero =>
  intro i R h hR;rw[ah PY];simp (maxSteps:=300000) (disch:=omega) [↓ac,↓aa,rks]
 | succ k ih =>
  intro i R h hR;have h5:=ih (i+1) (R.set (nth es i) i) o_ (by simpa using hR);have c1:((i+1:Nat):Int)=(i:Int)+1:=rfl;have hv:=hu.nth (i:=i) o_;rw[c1]at h5;rw[ah PY,rks,<-h5];simp (maxSteps:=300000) (disch:=omega) [↓ac,↓aa]
end
abbrev lN:=@List.set_eq_take_append_cons_drop
abbrev rH:=@List.getElem_take
abbrev gP:=@List.getElem?_eq_none
abbrev wC:=@List.drop_zero
@[simp] def aC6 {h:ak}{n id off:Nat}{k:IntKind}{z:Int}(h0:0<=z) (h1:z<=n):RH h n (.ptr id off) none (some (.d (.int k z))) none=bA (get h id) fun o=>bA (cellsOf o) fun cs=>dE (Nat.ble (off+n) cs.length) (some (.sl id off z.toNat)):=by
 obtain⟨d,rfl⟩:=aB h0;have hd:Nat.ble d n=true:=cP o_;have hb:yS n none (some (.d (.int k (d:Int)))) none=some (0,d,n):=by
  show (match (match Nat.ble d n with | true=>some d | false=>none) with | none=>none | some h=>xx none h n)=_;rw[hd];rfl
 simp only[RH,Tm]
 cases get h id with
 | none=>rfl
 | some o =>
  cases o with
  | cells cs =>
   simp only[bA,cellsOf,hb]
   cases Nat.ble (off+n) cs.length<;>simp[dE]
  | arr=>rfl
  | loop=>rfl
def vc (V:G_):D_:=V.map fun z=>A_ z
def RC {V:G_}:(vc V).length=V.length:=by simp[vc]
def aqj {V:G_}{i:Nat}(h:i<V.length):(vc V)[i]?=some (A_ (nth V i)):=by
 rw[vc,bU,AS h];rfl
def axq {V:G_}{i:Nat}{z:Int}:(vc V).set i (A_ z)=vc (V.set i z):=by simp[vc,lL]
def agV {V:G_}{i:Nat}{z:Int}(h:i<V.length):List.take i (vc V)++AV.d (.int .i64 z)::List.drop (i+1) (vc V)=vc (V.set i z):=by
 rw[<-axq,lN,ac (by rw[RC];exact h)]
def odo (lo hi:Int):Nat->G_->G_
 | 0,V=>V
 | i+1,V=>if nth V i+1<=hi then V.set i (nth V i+1) else odo lo hi i (V.set i lo)
abbrev Sm (V:G_):Prop:=∀ z∈V,-100000<=z∧z<=100000
section
variable (k1:AV) (dm lo hi pl:Int) (ct:D_) (N:Nat)
def aqz (d n m:Nat) (hd:d<=4) (V:G_) (hV:V.length=4) (hs:Sm V):∀ (k i sum:Nat),i+k=d->sum<=1000000*(i+1)->
  (Dn prog).code (.loop nG) ⟨[(1,.ptr 0 0),(2,.ptr 1 0),(3,.ptr 2 0),(5,A_ n),(6,A_ sum),(21,A_ m),(22,A_ n),(27,.sl 2 0 d),(28,A_ d),(29,A_ i)],
   ⟨[(0,.cells [A_ dm,A_ lo,A_ hi,A_ pl]),(1,.cells ct),(2,.cells (vc V))],N⟩⟩ =
  some (.exit 4,⟨[(1,.ptr 0 0),(2,.ptr 1 0),(3,.ptr 2 0),(5,A_ n),(6,A_ ((sum+OT ((V.take d).drop i):Nat))),(21,A_ m),(22,A_ n)],
   ⟨[(0,.cells [A_ dm,A_ lo,A_ hi,A_ pl]),(1,.cells ct),(2,.cells (vc V))],N⟩⟩):=by
 intro k
 induction k with
 | zero =>
  intro i sum h1 h2;have e:(V.take d).drop i=[]:=cD g_;rw[ah Cz,e];simp (maxSteps:=300000) (disch:=omega) [↓ac,↓aa,OT]
 | succ k ih =>
  intro i sum h1 h2;have hg:=aqj (V:=V) (i:=i) o_;have hb:=hs (nth V i) (jg o_);have e:(V.take d).drop i=nth V i::(V.take d).drop (i+1):=by
   rw[ee g_]
   congr 1
   rw[rH,afb o_]
  have h5:=ih (i+1) (sum+(nth V i).natAbs) o_ o_;have es:sum+OT ((V.take d).drop i)=sum+(nth V i).natAbs+OT ((V.take d).drop (i+1)):=by rw[e,OT];omega
  rw[es];have c1:((i+1:Nat):Int)=(i:Int)+1:=rfl;rw[c1]at h5;rw[ah Cz,<-h5];generalize nth V i=z at *;by_cases hz:z<0
  .have c2:((sum+z.natAbs:Nat):Int)=(sum:Int)+-z:=o_;rw[c2];simp (maxSteps:=300000) (disch:=omega) [↓ac,↓aa,hg]
  .have c2:((sum+z.natAbs:Nat):Int)=(sum:Int)+z:=o_;rw[c2];simp (maxSteps:=300000) (disch:=omega) [↓ac,↓aa,hg]
def aso (n m:Nat) (hlo:-1000<=lo∧lo<=1000):∀ (j:Nat) (V:G_),j<=4->V.length=4->Sm V->
  (Dn prog).code (.loop nA) ⟨[(1,.ptr 0 0),(2,.ptr 1 0),(3,.ptr 2 0),(9,A_ ((j:Int)-1)),(21,A_ m),(22,A_ n)],
   ⟨[(0,.cells [A_ dm,A_ lo,A_ hi,A_ pl]),(1,.cells ct),(2,.cells (vc V))],N⟩⟩ =
  some (.exit 6,⟨[(1,.ptr 0 0),(2,.ptr 1 0),(3,.ptr 2 0),(21,A_ m),(22,A_ n)],
   ⟨[(0,.cells [A_ dm,A_ lo,A_ hi,A_ pl]),(1,.cells ct),(2,.cells (vc (odo lo hi j V)))],N⟩⟩):=by
 intro j
 induction j with
 | zero =>
  intro V h1 hV hs;rw[ah BE];simp (maxSteps:=300000) (disch:=omega) [↓ac,↓aa,odo]
 | succ j ih =>
  intro V h1 hV hs;have hg:=aqj (V:=V) (i:=j) o_;have hb:=hs (nth V j) (jg o_);have hgs:∀ z,(vc (V.set j z))[j]?=some (A_ z):=fun z=>by
   rw[vc,bU,uv o_];rfl
  have c1:((j+1:Nat):Int)-1=(j:Int):=o_;have lp:=fun z=>agV (V:=V) (i:=j) (z:=z) (by omega)
  have lq:=fun y z=>agV (V:=V.set j y) (i:=j) (z:=z) (by simp;omega)
  have hss:∀ y z,(V.set j y).set j z=V.set j z:=fun y z=>List.set_set ..
  have hl2:∀ y,(V.set j y).length=4:=fun y=>by simpa using hV
  rw[c1,ah BE,odo];by_cases h:nth V j+1<=hi
  .rw[ac h];generalize nth V j=z at *;simp (maxSteps:=300000) (disch:=omega) [↓ac,↓aa,hg,RC,lp,lq,hss,hl2,hV,hgs]
  .have h5:=ih (V.set j lo) o_ (by simpa using hV) (fun z hz=>by
    rcases gY hz with g | g
    .exact hs z g
    .subst g;omega)
   rw[aa h,<-h5];generalize nth V j=z at *;simp (maxSteps:=300000) (disch:=omega) [↓ac,↓aa,hg,RC,lp,lq,hss,hl2,hV,hgs]
def Zi (lo:Int):Nat->Nat->G_->G_
 | 0,_,V=>V
 | k+1,i,V=>Zi lo k (i+1) (V.set i lo)
def asP (d:Nat) (hd:d<=4):∀ (k i:Nat) (V:G_),i+k=d->V.length=4->
  (Dn prog).code (.loop nJ) ⟨[(1,.ptr 0 0),(2,.ptr 1 0),(3,.ptr 2 0),(11,A_ d),(12,A_ i)],
   ⟨[(0,.cells [A_ dm,A_ lo,A_ hi,A_ pl]),(1,.cells ct),(2,.cells (vc V))],N⟩⟩ =
  some (.exit 0,⟨[(1,.ptr 0 0),(2,.ptr 1 0),(3,.ptr 2 0)],
   ⟨[(0,.cells [A_ dm,A_ lo,A_ hi,A_ pl]),(1,.cells ct),(2,.cells (vc (Zi lo k i V)))],N⟩⟩):=by
 intro k
 induction k with
 | zero =>
  intro i V h1 hV;rw[ah Bv];simp (maxSteps:=300000) (disch:=omega) [↓ac,↓aa,Zi]
 | succ k ih =>
  intro i V h1 hV;have lp:=fun z=>agV (V:=V) (i:=i) (z:=z) (by omega)
  have h5:=ih (i+1) (V.set i lo) o_ (by simpa using hV);have c1:((i+1:Nat):Int)=(i:Int)+1:=rfl;rw[c1]at h5;rw[ah Bv,Zi,<-h5];simp (maxSteps:=300000) (disch:=omega) [↓ac,↓aa,RC,lp,hV]
end
def AU (id n:Nat):G_:=(mr id n++[0,0,0,0]).take 4
def auc (id n:Nat):Bool:=decide (odo (de id) (de id+cx id-1) (d9 id) (AU id n)=AU id (n+1)) && decide (OT ((AU id n).take (d9 id))=zx id n) && decide (zx id n<=255) &&
 (AU id n).all (fun z=>decide (-100000<=z) && decide (z<=100000)) && decide ((AU id n).length=4)
def awl:∀ id∈ids,(List.range (bm id)).all (auc id)=true:=e_
def ayu {id n:Nat}(h:ju id) (hn:n<bm id):odo (de id) (de id+cx id-1) (d9 id) (AU id n)=AU id (n+1)∧OT ((AU id n).take (d9 id))=zx id n∧zx id n<=255∧Sm (AU id n)∧(AU id n).length=4:=by
 have:=bG.1 (awl id (fO h)) n (by simpa using hn);simp only[auc,af,decide_eq_true_eq,bG]at this;exact⟨this.1.1.1.1,this.1.1.1.2,this.1.1.2,fun z hz=>this.1.2 z hz,this.2⟩
def atI:∀ id∈ids,Zi (de id) (d9 id) 0 [0,0,0,0]=AU id 0∧d9 id<=4∧1<=d9 id∧-1000<=de id∧de id<=1000∧bm id<=289:=e_
def tZ (id n:Nat):D_:=(List.range 289).map fun e=>.d (.int .u8 (if e<n then zx id e else 0:Nat))
def WA {id n:Nat}:(tZ id n).length=289:=by simp[tZ]
def aq8 {id n:Nat}(h:n<289):List.take n (tZ id n)++AV.d (.int .u8 (zx id n:Nat))::List.drop (n+1) (tZ id n)=tZ id (n+1):=by
 have e:(tZ id n).set n (AV.d (.int .u8 (zx id n:Nat)))=tZ id (n+1):=by
  apply dF;intro j;rw[List.getElem?_set];by_cases hj:n=j
  .subst hj;rw[ac rfl,ac (by rw[WA];exact h),tZ,bU,kU h];simp
  .rw[aa hj,tZ,tZ,bU,bU];by_cases hl:j<289
   .rw[kU hl];simp only[vA];by_cases h2:j<n
    .rw[ac h2,ac o_]
    .rw[aa h2,aa o_]
   .rw[gP g_];rfl
 rw[<-e,lN,ac (by rw[WA];exact h)]
def asQ (id:Nat) (h:ju id) (pl:Int) (N:Nat):∀ (k n:Nat),n+k=bm id->
  (Dn prog).code (.loop nB) ⟨[(1,.ptr 0 0),(2,.ptr 1 0),(3,.ptr 2 0),(21,A_ (bm id)),(22,A_ n)],
   ⟨[(0,.cells [A_ (d9 id),A_ (de id),A_ (de id+cx id-1),A_ pl]),(1,.cells (tZ id n)),(2,.cells (vc (AU id n)))],N⟩⟩ =
  some (.exit 2,⟨[(2,.ptr 1 0)],⟨[(1,.cells (tZ id (bm id))),(2,.cells (vc (AU id (bm id))))],N⟩⟩):=by
 obtain⟨d0,d1,d2,d3,d4,d5⟩:=atI id (fO h);intro k
 induction k with
 | zero =>
  intro n hn;have:n=bm id:=o_;subst this;rw[ah Co];simp (maxSteps:=300000) (disch:=omega) [↓ac,↓aa]
 | succ k ih =>
  intro n hn;obtain⟨f1,f2,f3,f4,f5⟩:=ayu (n:=n) h o_;have g1:=aqz (d9 id) (de id) (de id+cx id-1) pl (tZ id n) N (d9 id) n (bm id) d1 (AU id n) f5 f4 (d9 id) 0 0 o_ o_;have g2:=aso (d9 id) (de id) (de id+cx id-1) pl (tZ id (n+1)) N n (bm id) ⟨d3,d4⟩ (d9 id) (AU id n) d1 f5 f4;rw[f1]at g2;rw[wC,f2,bz]at g1;have h5:=ih (n+1) o_;have c1:((n+1:Nat):Int)=(n:Int)+1:=rfl;have c0:((0:Nat):Int)=0:=rfl;rw[c1]at h5;rw[c0]at g1;have hp:=aq8 (id:=id) (n:=n) o_;have hl:=RC (V:=AU id n);have ol:=WA (id:=id) (n:=n);rw[ah Co,<-h5];generalize zx id n=z at *;generalize hA:tZ id n=A at *;generalize hB:tZ id (n+1)=B at *;generalize AU id n=V at *;generalize AU id (n+1)=W at *;simp (maxSteps:=300000) (disch:=omega) [↓ac,↓aa,g1,g2,hp,AV.int]
def KZ:D_:=List.replicate 289 (.d (.int .u8 0))
def agf:KZ.length=289:=by simp[KZ]
def aya {id:Nat}:tZ id 0=KZ:=by
 simp only[tZ,Nat.not_lt_zero,bh,KZ];rw[List.map_const',rV];rfl
def ash {id:Nat}:tZ id (bm id)=sf id:=rfl
def azP {x0:AV}{h:ak}{n:Nat}:(Dn prog).code nu ⟨[(0,x0)],⟨h,n⟩⟩=fb (dE ((AV.cells x0).all bw) <| lA (put h n (.cells (AV.cells x0))) fun h1=>lA (put h1 (n+1) (.cells KZ)) fun h2=>some ⟨[(1,.ptr n 0),(2,.ptr (n+1) 0)],⟨h2,n+1+1⟩⟩):=Be
abbrev Dl (Z:D_):Prop:=∀ x∈Z,∃ d,x=AV.d d
def agW:∀ {Z:D_},(fI 1 Z).1=Z
 | []=>rfl
 | v::r=>by rw[fI,agW];rfl
def agv {h:ak}:∀ {Z:D_},Dl Z->sD h Z=some (Z,h)
 | [],_=>rfl
 | v::r,hz=>by
  obtain⟨d,rfl⟩:=hz v (.head _);have h1:kt h (.d d)=some (.d d,h):=rfl;rw[sD,h1];simp only[agv (Z:=r) fun x hx=>hz x (.tail _ hx)]
def aeI:∀ {Z:D_},Dl Z->Z.map om=Z
 | [],_=>rfl
 | v::r,hz=>by
  obtain⟨d,rfl⟩:=hz v (.head _);rw[bZ,aeI fun x hx=>hz x (.tail _ hx)];rfl
def atu {id:Nat}:Dl (sf id):=by
 intro x hx;simp only[sf,dj]at hx;obtain⟨e,_,rfl⟩:=hx;exact⟨_,rfl⟩
def Xt (id:Nat) (h:ju id):br prog gD [Um id]=some (.agg (sf id)):=by
 have hin:=fO h;obtain⟨d0,d1,d2,d3,d4,d5⟩:=atI id hin;have hm:=Ha id hin;have h0:=asP (d9 id) (de id) (de id+cx id-1) (bK id) KZ 3 (d9 id) d1 (d9 id) 0 [0,0,0,0] o_ rfl;have h3:=asQ id h (bK id) 3 (bm id) 0 o_;have c0:((0:Nat):Int)=0:=rfl;have v0:vc [0,0,0,0]=[A_ 0,A_ 0,A_ 0,A_ 0]:=rfl;rw[d0,c0,v0]at h0;rw[aya,ash,c0]at h3;have zl:=aaY (id:=id);have zr:=fun h=>agv (h:=h) (atu (id:=id))
 have zb:=aeI (atu (id:=id));have zt:List.take 289 (sf id)=sf id:=ck o_;have z1:=agW (Z:=sf id);simp only[Um]at hm⊢;rw[aJ TH TX rfl];generalize sf id=Z at *;generalize vc (AU id 0)=V0 at *;generalize vc (AU id (bm id))=V1 at *;generalize bK id=pl at *;generalize d9 id=dm at *;generalize de id=lo at *;generalize cx id=wi at *;generalize bm id=n at *;simp (maxSteps:=300000) (disch:=omega) [↓ac,↓aa,hm,h0,h3,-Be,azP,zt,z1,zr];exact fun _=>zb
def amb {hp:C_->ak}{D L:Nat}{F:AV}{C:Nat->Nat->Int}(H:Hp hp D) (K:Cm hp L F C) (n:Nat) (hlen:n<=1000000000) (hn:n % 20≠0) (N:Nat) (xs:C_) (hx:xs.length=n) (u:eK L xs) :
  (Dn prog).call sM [.sl D 0 n,F] ⟨hp xs,N⟩=some (.tup [],⟨hp (sH C n xs),N⟩):=by
 have h:=apm H K n hlen hn N xs hx u;rw[ba Dk DU rfl];simp (maxSteps:=300000) (disch:=omega) [↓ac,↓aa,K.sh,K.fi,h]
def aAM {x2:AV}{x4:AV}{x6:AV}{h:ak}{n:Nat}:(Dn prog).code zJ ⟨[(2,x2),(4,x4),(6,x6)],⟨h,n⟩⟩=fb (bP (loadAt h (some 4) 1 (share x4)) fun a1 h2=>bA (eD (Dn prog) gD [firm a1] h2) fun a3=>lA (put h2 n (.cells KZ)) fun h4=>bA (storeAt h4 289 (.ptr n 0) (firm a3)) fun h5=>some ⟨[(2,x2),(4,x4),(6,x6),(7,.ptr n 0)],⟨h5,n+1⟩⟩):=LD
def ahq {W Z:D_}(h:W.length=Z.length):aG W 0 Z=Z:=by simp[aG,<-h]
def afB {id:Nat}:(sf id).all bw=true:=by
 rw[bG];intro x hx;simp only[sf,dj]at hx;obtain⟨e,_,rfl⟩:=hx;rfl
def agM {id:Nat}:(sf id).map oF=sf id:=by
 simp only[sf,tz];rfl
def as4 {n:Nat}:List.replicate n [D.int .i64 0]=cR (List.replicate n 0):=by simp[cR]
def aqh (id:Nat) (h:ju id):br prog G9 [A_ id]=some (.tup [W6 id,A_ 0]):=by
 have hin:=fO h;obtain⟨m1,m2,m3⟩:=ajY id hin;obtain⟨e1,e2,e3⟩:=aka id hin;have hR:=au2 id hin;have t1:List.take (bm id) (cg id)=cg id:=ck o_;have t2:List.take (bm id) (dC id)=dC id:=ck o_;have hst:=axO id h;have ho:=NX id hin;have hm:=Ha id hin;have hz:=Xt id h;have zl:=aaY (id:=id);have zc:=afB (id:=id);have zf:=agM (id:=id);have z9:=agf;have zd:List.drop (sf id).length KZ=[]:=cD o_;have hu:eK (bm id) (cg id):=fun x hx=>by simpa using bG.1 e3 x hx
 have hs:=fun a b c d x0 x1 R N=>amb (hp:=fun xs=>[(0,.cells [a,b,c,d]),(2,.arr 1 (cR xs)),(3,.arr 1 (cR R)),(4,.cells [.d x0,.d x1,.sl 2 0 (bm id),.sl 3 0 (bm id)]),(5,.cells (sf id))]) (D:=2)
  ⟨fun xs=>rfl,fun xs ys=>rfl⟩ (aDi (S:=5) (fun xs=>rfl) m1) (bm id) o_ m2 N (List.range (bm id)) s_ (fun x hx=>by simpa using hx)
 have h0:=fun a b c d x0 x1 R N=>aiu (bm id) (sf id) m1 R a b c d x0 x1 N (bm id) 0 (by omega)
 have h1:=fun a b c d x0 x1 N=>aic (bm id) (sf id) m1 (cg id) e1 hu a b c d x0 x1 N (bm id) 0 (List.replicate (bm id) 0) o_ (by simp)
 have hup:Gv (bm id) (bm id)=List.range (bm id):=by simp[Gv]
 have hu0:Gv (bm id) 0=List.replicate (bm id) 0:=by simp[Gv]
 rw[hup,hu0]at h0;simp only[hst,hR,Um]at hs h1 ho hm hz;rw[aJ amc ale rfl];have hid:(1:Int)<=id∧(id:Int)<=12:=o_;have c0:((0:Nat):Int)=0:=rfl;rw[c0]at h0 h1;simp only[W6];generalize sf id=Z at *;generalize cg id=es at *;generalize dC id=rs at *;generalize bK id=pl at *;generalize d9 id=dm at *;generalize de id=lo at *;generalize cx id=wi at *;generalize bm id=n at *;simp (maxSteps:=300000) (disch:=omega) [↓ac,↓aa,ho,hm,hz,h0,hs,h1,-LD,aAM,ahq,zc,zf,zd,DT,as4,AV.int,t1,t2]
def kA (id:Nat):Bool:=decide (de id<0)
def Qv:∀ x∈ids.take 11,br prog ad5 [A_ x]=some (B_ (kA x)):=IK 100 _ (by kernel_rfl)
section
variable (id:Nat)
end
section
variable (n:Nat) (sz:C_) (hz:sz.length=n) (hn2:n<=289) (a b c d:AV) (x0 x1:D) (N:Nat)
include hz hn2
end
def okR (sz es rs:C_) (i:Nat):Bool:=Nat.beq (mP rs (mP es i)) i &&
 (Nat.beq i 0 || Nat.blt (mP sz (mP es (i-1))) (mP sz (mP es i)) || (Nat.beq (mP sz (mP es (i-1))) (mP sz (mP es i)) && Nat.blt (mP es (i-1)) (mP es i)))
def au6:∀ id∈ids,(List.range (bm id)).all (okR (jI id) (cg id) (dC id))=true:=e_
def aoe {id i:Nat}(h:ju id) (hi:i<bm id):nth (dC id) (nth (cg id) i)=i∧(i≠0->nth (jI id) (nth (cg id) (i-1))<nth (jI id) (nth (cg id) i)∨(nth (jI id) (nth (cg id) (i-1))=nth (jI id) (nth (cg id) i)∧nth (cg id) (i-1)<nth (cg id) i)):=by
 have:=bG.1 (au6 id (fO h)) i (by simpa using hi);simp only[okR,Bb,af,cV,aC,Nat.blt,bj]at this;refine⟨this.1,fun h0=>?_⟩;rcases this.2 with (h1 | h1) | h1
 .exact absurd h1 h0
 .exact .inl h1
 .exact .inr h1
section
variable (n:Nat) (hn:n<=289) (sz es rs:C_) (Z:D_) (he:es.length=n) (hr:rs.length=n) (hu:eK n es) (hZ:∀ x,x<n->Z[x]?=some (.d (.int .u8 (nth sz x:Nat))))
 (h1:∀ i,i<n->nth rs (nth es i)=i) (h2:∀ i,i+1<n->nth sz (nth es i)<nth sz (nth es (i+1))∨(nth sz (nth es i)=nth sz (nth es (i+1))∧nth es i<nth es (i+1)))
include hn he hr hu hZ h1 h2
theorem adR (x0 x1:D) (N:Nat):∀ (k i:Nat),i+k=n->
  (Dn prog).code (.loop vH) ⟨[(1,.ptr 0 0),(5,.ptr 2 0),(43,.d (.lst (cR es))),(44,A_ n),(45,A_ i)],⟨[(0,.cells [.d x0,.d x1,.d (.lst (cR es)),.d (.lst (cR rs))]),(2,.cells Z)],N⟩⟩ =
  some (.exit 0,⟨[],⟨[],N⟩⟩):=by
 intro k
 induction k with
 | zero =>
  intro i h;rw[ah JC];simp (maxSteps:=300000) (disch:=omega) [↓ac,↓aa]
 | succ k ih =>
  intro i h;have hv:=hu.nth (i:=i) o_;have e1:=hZ _ hv;have r1:=h1 i o_;have h5:=ih (i+1) o_;have c1:((i+1:Nat):Int)=(i:Int)+1:=rfl;rw[c1]at h5;rw[ah JC,<-h5];by_cases h0:i=0
  .subst h0;have c0:((0:Nat):Int)=0:=rfl;rw[c0];have n0:(0:Int)=((0:Nat):Int):=rfl;simp (maxSteps:=300000) (disch:=omega) [↓ac,↓aa,r1]
  .obtain⟨q,rfl⟩:∃ q,i=q+1:=⟨i-1,o_⟩
   have hw:=hu.nth (i:=q) o_;have e2:=hZ _ hw;rcases h2 q o_ with g | ⟨g1,g2⟩
   .simp (maxSteps:=300000) (disch:=omega) [↓ac,↓aa,r1,e1,e2]
   .simp (maxSteps:=300000) (disch:=omega) [↓ac,↓aa,r1,e1,e2]
end
def aA8 {x1:AV}{x3:AV}{h:ak}{n:Nat}:(Dn prog).code wc ⟨[(1,x1),(3,x3)],⟨h,n⟩⟩=fb (bP (loadAt h (some 4) 1 (share x3)) fun a1 h2=>bA (eD (Dn prog) gD [firm a1] h2) fun a3=>lA (put h2 n (.cells KZ)) fun h4=>bA (storeAt h4 289 (.ptr n 0) (firm a3)) fun h5=>some ⟨[(1,x1),(3,x3),(5,.ptr n 0)],⟨h5,n+1⟩⟩):=HZ
def ajk (id:Nat) (h:ju id):br prog Iz [nD id]=some (B_ true):=by
 have hin:=fO h;obtain⟨m1,m2,m3⟩:=ajY id hin;obtain⟨e1,e2,e3⟩:=aka id hin;have ho:=NX id hin;have hm:=Ha id hin;have hz:=Xt id h;have zl:=aaY (id:=id);have zc:=afB (id:=id);have zf:=agM (id:=id);have z9:=agf;have zd:List.drop (sf id).length KZ=[]:=cD o_;have hu:eK (bm id) (cg id):=fun x hx=>by simpa using bG.1 e3 x hx
 have h0:=fun x0 x1 N=>adR (bm id) m1 (jI id) (cg id) (dC id) (sf id) e1 e2 hu (fun x hx=>aam hx m1) (fun i hi=>(aoe h hi).1) (fun i hi=>by have:=(aoe h hi).2 o_;simpa using this) x0 x1 N (bm id) 0 (by omega)
 simp only[Um]at ho hm hz;rw[aJ ahS agY rfl];have hid:(1:Int)<=id∧(id:Int)<=12:=o_;have c0:((0:Nat):Int)=0:=rfl;rw[c0]at h0;simp only[nD];generalize sf id=Z at *;generalize jI id=zs at *;generalize cg id=es at *;generalize dC id=rs at *;generalize bK id=pl at *;generalize d9 id=dm at *;generalize de id=lo at *;generalize cx id=wi at *;generalize bm id=n at *;simp (maxSteps:=300000) (disch:=omega) [↓ac,↓aa,ho,hm,hz,h0,-HZ,aA8,ahq,zc,zf,zd,AV.int,e1,e2]
def mi (b:C_):Nat->Nat->Int->R Nat
 | 0,_,_=>.er 7
 | f+1,m,a=>(bc b a 1).bind fun v n=>if v=1 then .ok m n else mi b f (m+1) n
abbrev pZ (b:C_) (m n:Nat):Prop:=m<=9∧n<=b.length
def afh {b:C_}:∀ {f m k n:Nat}{a:Int},f+m=10->mi b f m a=.ok k n->pZ b k n
 | 0,_,_,_,_,_,h=>absurd h (by simp[mi])
 | f+1,m,k,n,a,hf,h=>by
  rw[mi]at h
  cases h1:bc b a 1 with
  | er e=>rw[h1]at h;exact absurd h (by simp)
  | ok v a1 =>
   rw[h1,ay]at h;by_cases hv:v=1
   .rw[ac hv]at h;injection h with e1 e2
    subst e1 e2;exact⟨o_,(ed h1).2⟩
   .rw[aa hv]at h;exact afh o_ h
def aqG {α γ:Type}{p:α->Nat->Prop}{b:C_}{f m:Nat}{a:Int}{g:Nat->Nat->R α}{F:α->Nat->γ}{G:Nat->γ}(h:f+m=10):rK p ((mi b f m a).bind g) F G=rK (pZ b) (mi b f m a) (fun v n=>rK p (g v n) F G) G:=xz fun _ _ h2=>afh h h2
def anQ {γ:Type}{b:C_}{f m:Nat}{a:Int}{F:Nat->Nat->γ}{G:Nat->γ}(h:f+1+m=10):rK (pZ b) (mi b (f+1) m a) F G=rK (pG b 1) (bc b a 1) (fun v n=>if v=1 then F m n else rK (pZ b) (mi b f (m+1) n) F G) G:=by
 rw[mi,H3];refine jS (fun _ _=>rfl) (fun v n hp=>?_) fun _=>rfl
 by_cases hv:v=1
 .rw[ac hv,ac hv,eI ⟨o_,hp.2⟩]
 .rw[aa hv,aa hv]
def zA (id:Nat) (b:C_) (a:Int):R Nat :=
 (mi b 10 0 a).bind fun m n=>(bc b n m).bind fun hi n=>(bc b n (bK id)).bind fun lo n =>
  if (cg id).length<=(2 ^ m+hi-1)*2 ^ bK id+lo then .er 7 else .ok (nth (cg id) ((2 ^ m+hi-1)*2 ^ bK id+lo)) n
def agE (b:C_) (hb:b.length<=1000000000) (X:Obj) (N:Nat):∀ (f m:Nat) (a:Int),f+m=10->i64 a->
  (Dn prog).code (.loop xp) ⟨[(1,.d (.lst (am b))),(3,.ptr 0 0),(7,A_ a),(9,A_ m),(10,A_ 0)],⟨[(0,X)],N⟩⟩ =
  rK (pZ b) (mi b f m a) (fun m n=>some (.exit 0,⟨[(1,.d (.lst (am b))),(3,.ptr 0 0),(7,A_ n),(9,A_ ((m+1:Nat):Int))],⟨[(0,X)],N⟩⟩)) (fun e=>some (.ret,⟨[(6,A_ 0),(7,A_ 0),(8,A_ (e+1))],⟨[],N⟩⟩)):=by
 intro f
 induction f with
 | zero =>
  intro m a hf ha;rw[ah Dq,mi];simp (maxSteps:=300000) (disch:=omega) [↓ac,↓aa]
 | succ f ih =>
  intro m a hf ha;rw[ah Dq,anQ hf];simp (maxSteps:=300000) (disch:=omega) [↓ac,↓aa,il];refine jS (fun _ _=>rfl) (fun v n hp=>?_) fun _=>rfl
  have hp4:v<2:=hp.1;by_cases h4:v=1
  .subst h4;rw[ac rfl,ah Dq];simp (maxSteps:=300000) (disch:=omega) [↓ac,↓aa]
  .have h5:v=0:=o_;subst h5;have h:=ih (m+1) n o_ o_;rw[aa h4];simp at h⊢;exact h
def W8 (id:Nat) (h:ju id):br prog Iz [nD id]=some (B_ true):=ajk id h
def Wn (id:Nat) (h:ju id):br prog G9 [A_ id]=some (.tup [W6 id,A_ 0]):=aqh id h
def asr {γ:Type}{id:Nat}{b:C_}{a:Int}(hid:ju id) {F:Nat->Nat->γ}{G:Nat->γ}:rK (fun e n=>e<bm id∧n<=b.length) (zA id b a) F G =
  rK (pZ b) (mi b 10 0 a) (fun m n=>rK (pG b m) (bc b n m) (fun hi n=>rK (pG b (bK id)) (bc b n (bK id)) (fun lo n =>
  if (cg id).length<=(2 ^ m+hi-1)*2 ^ bK id+lo then G 7 else F (nth (cg id) ((2 ^ m+hi-1)*2 ^ bK id+lo)) n) G) G) G:=by
 rw[zA,aqG rfl];refine jS (fun _ _=>rfl) (fun m n hp=>?_) fun _=>rfl
 rw[H3];refine jS (fun _ _=>rfl) (fun hi n hp=>?_) fun _=>rfl
 rw[H3];refine jS (fun _ _=>rfl) (fun lo n hp=>?_) fun _=>rfl
 by_cases hr:(cg id).length<=(2 ^ m+hi-1)*2 ^ bK id+lo
 .rw[ac hr,ac hr,iK]
 .rw[aa hr,aa hr,eI];exact⟨(Kh o_).2.2.2 _ (jg o_),hp.2⟩
abbrev Do:VC:=(.seq (.seq BI (.cond (.m 73) (.seq (.seq (K [7,13]) (F 3)) (.seq BG .ret)) .skip)) (.seq (.seq Cn (F 3)) .ret))
def Tk {m:Nat}(h:m<=60):fo .shl (A_ 1) (A_ m)=some (.int .i64 ((2 ^ m:Nat):Int)):=by
 have h2:2 ^ m<=2 ^ 60:=aw o_ h;have h3:min m 64=m:=o_;rw[rX o_,au,IntKind.bits,h3];generalize 2 ^ m=P at *;rw[ahG o_ o_,Int.one_mul]
def alC {x:Int}{m P:Nat}(hP:2 ^ m=P) (hm:m<=60) (h0:0<=x) (h1:x*P<=4611686018427387904):fo .shl (A_ x) (A_ m)=some (.int .i64 (x*P)):=by
 subst hP;have h2:2 ^ m<=2 ^ 60:=aw o_ hm;have h3:min m 64=m:=o_;rw[rX o_,au,IntKind.bits,h3];have:0<=x*((2 ^ m:Nat):Int):=Int.mul_nonneg h0 (qy _);generalize x*((2 ^ m:Nat):Int)=y at *;rw[ahG o_ o_]
def axG {x:Int}(h0:0<=x) (h1:x<=100000000):fo .shl (A_ x) (A_ 0)=some (.int .i64 x):=by
 have:=alC (x:=x) (m:=0) (P:=1) rfl o_ h0 o_;simpa using this
def axk {x:Int}(h0:0<=x) (h1:x<=100000000):fo .shl (A_ x) (A_ 1)=some (.int .i64 (x*2)):=by
 have:=alC (x:=x) (m:=1) (P:=2) rfl o_ h0 o_;simpa using this
def axP {x:Int}(h0:0<=x) (h1:x<=100000000):fo .shl (A_ x) (A_ 2)=some (.int .i64 (x*4)):=by
 have:=alC (x:=x) (m:=2) (P:=4) rfl o_ h0 o_;simpa using this
def acM (id:Nat) (b:C_) (a:Int) (hb:b.length<=1000000000) (ha:i64 a) (hid:ju id):br prog UP [nD id,.d (.lst (am b)),A_ a] =
  rK (fun e n=>e<bm id∧n<=b.length) (zA id b a) (fun e n=>some (.tup [A_ e,A_ n,A_ 0])) (fun e=>some (.tup [A_ 0,A_ 0,A_ (e+1)])):=by
 have hr:=W8 id hid;have hf:=Kh (id:=id) o_;rw[aJ aiG ah3 rfl,asr hid];have hl:=fun X N=>agE b hb X N 10 0 a rfl ha
 have c0:((0:Nat):Int)=0:=rfl;simp only[c0]at hl;simp only[nD]at hr⊢;obtain⟨f1,f2,f3,-⟩:=hf;generalize cg id=es at *;generalize dC id=rs at *;generalize bK id=pl at *;simp (maxSteps:=300000) (disch:=omega) [↓ac,↓aa,hr,hl];refine jS (fun _ _=>rfl) (fun m n hp=>?_) fun _=>rfl
 have hp2:2 ^ m<=2 ^ 9:=aw o_ hp.1;have e1:(m:Int)+1-1=m:=o_;have hs1:=Tk (m:=m) o_;have hp1:=hp.1;have hpos:0<2 ^ m:=bO m;have c1:((1:Nat):Int)=1:=rfl;have c2:((2:Nat):Int)=2:=rfl;generalize hP:2 ^ m=P at *;have fin:∀ (x:Nat) (n:Nat) (i1 p:Int),x<=100000->tD (wn [.tmp 6,.tmp 7,.tmp 8] ((Dn prog).code (Do) ⟨[(3,.ptr 0 0),(7,A_ n),(13,A_ x)],⟨[(0,.cells [A_ i1,A_ p,.d (.lst (cR es)),.d (.lst (cR rs))])],1⟩⟩)) =
   if es.length<=x then some (.tup [A_ 0,A_ 0,A_ 8]) else some (.tup [A_ ((nth es x:Nat):Int),A_ n,A_ 0]):=fun x n i1 p hx=>by
  by_cases hr:es.length<=x
  .rw[ac hr];simp (maxSteps:=300000) (disch:=omega) [↓ac]
  .rw[aa hr];simp (maxSteps:=300000) (disch:=omega) [↓aa]
 have hpl:pl=0∨pl=1∨pl=2:=o_;obtain⟨T,ht⟩:∃ T,T=Do:=⟨_,rfl⟩
 rw[<-ht]at fin;unfold Do at ht;rw[<-ht];rcases hpl with rfl | rfl | rfl
 all_goals
  simp (maxSteps:=300000) (disch:=omega) [↓ac,↓aa,il,e1,-rX,hs1];refine jS (fun _ _=>rfl) (fun hi n hp=>?_) fun _=>rfl
  refine jS (fun _ _=>rfl) (fun lo n hq=>?_) fun _=>rfl
  have h1:hi<P:=hP▸hp.1;have h2:lo<4:=aZ hq.1 k_;simp (maxSteps:=300000) (disch:=omega) [-rX,axG,axk,axP]
 .have e3:((P+hi-1+lo:Nat):Int)=P+hi-1+lo:=o_;rw[<-e3,fin _ n id 0 o_]
 .have e3:(((P+hi-1)*2+lo:Nat):Int)=(P+hi-1)*2+lo:=o_;rw[<-e3,fin _ n id 1 o_]
 .have e3:(((P+hi-1)*4+lo:Nat):Int)=(P+hi-1)*4+lo:=o_;rw[<-e3,fin _ n id 2 o_]
abbrev b8:=@List.singleton_append
def lT:∀ id∈ids,1<=d9 id∧d9 id<=4∧1<=cx id∧cx id<=121∧-60<=de id∧de id<=0∧bm id<=300:=e_
def acH (dim low pl:Int) (w:Nat) (hw:w<=1000) (hl:-1000<=low∧low<=1000):br prog tQ [.agg [A_ dim,A_ low,A_ (low+w-1),A_ pl]]=some (A_ w):=by
 rw[aJ Vq Vv rfl];have e:low+(w:Int)-1-low+1=w:=o_;simp (disch:=omega) [e]
def td (e w:Nat):(e:Int).tdiv w=((e / w:Nat):Int):=rfl
def tm (e w:Nat):(e:Int).tmod w=((e % w:Nat):Int):=rfl
def auC {j:Nat}{x:Int}{suf:G_}:(List.replicate (j+1) (0:Int)++suf).set j x=List.replicate j 0++x::suf:=by
 rw[List.replicate_succ',aA,nE _ _ s_];simp
def ZZ (low:Int) (w pl dim:Nat) (hw:1<=w∧w<=1000) (hl:-1000<=low∧low<=1000):∀ (j e:Nat) (suf:G_),j+suf.length=dim->dim<=10->e<=100000->
  (Dn prog).code (.loop mz) ⟨[(1,A_ e),(2,.ptr 0 0),(5,.sl 1 0 dim),(6,A_ (j-1))],⟨[(0,.cells [A_ dim,A_ low,A_ (low+w-1),A_ pl]),(1,.arr 1 (aF (List.replicate j 0++suf)))],2⟩⟩ =
   some (.exit 0,⟨[(5,.sl 1 0 dim)],⟨[(1,.arr 1 (aF (lQ low w j e++suf)))],2⟩⟩):=by
 intro j
 induction j with
 | zero =>
  intro e suf h1 h2 h3;rw[ah A7];simp (disch:=omega) [↓aa,lQ]
 | succ j ih =>
  intro e suf h1 h2 h3;have hm:e % w<w:=dW _ o_;have hd:e / w<=e:=lj _ _;have h:=ih (e / w) ((((e % w:Nat):Int)+low)::suf) g_ h2 o_;rw[lQ,aA,b8,<-h,<-auC,ah A7];have hk:=acH dim low pl w o_ hl;have e1:((j+1:Nat):Int)-1=j:=o_;have hg:(aF (List.replicate (j+1) 0++suf))[j]?=some [.int .i64 (nth (List.replicate (j+1) 0++suf) j)]:=IZ g_;simp only[e1];have td:=td e w;have tm:=tm e w;generalize hL:List.replicate (j+1) (0:Int)++suf=L at *;generalize e / w=q at *;generalize e % w=r at *;clear ih h;simp (maxSteps:=300000) (disch:=omega) [↓ac,hk,td,tm,hg]
def Vl (id e:Nat) (h:ju id) (he:e<=100000):br prog E7 [Um id,A_ e]=some (.own true 1 (aF (mr id e))):=by
 obtain⟨k1,k2,k3,k4,k5,k6,k7⟩:=lT id (fO h);have hl:=ZZ (de id) (cx id) (bK id) (d9 id) o_ o_ (d9 id) e [] s_ o_ he;rw[aJ Qt Su rfl];simp only[Um,mr,bg]at hl⊢;have hr:aF (List.replicate (d9 id) 0)=List.replicate (d9 id) [D.int .i64 0]:=by simp[aF]
 rw[hr]at hl;have hv:(lQ (de id) (cx id) (d9 id) e).length=d9 id:=by
  have:∀ (d e:Nat),(lQ (de id) (cx id) d e).length=d:=by
   intro d
   induction d with
   | zero=>intro e;rfl
   | succ d ih=>intro e;simp[lQ,ih]
  exact this _ _
 generalize de id=low at *;generalize cx id=w at *;generalize d9 id=dim at *;generalize bK id=pl at *;generalize lQ low w dim e=V at *;simp (maxSteps:=300000) (disch:=omega) [hl,DT];exact⟨o_,by rw[ck o_]⟩
def UR (id e:Nat) (h:ju id) (he:e<bm id):br prog Pv [A_ id,A_ e]=some (.tup [.own true 1 (aF (mr id e)),A_ 0]):=by
 obtain⟨k1,k2,k3,k4,k5,k6,k7⟩:=lT id (fO h);have h1:=NX id (fO h);have h2:=Ha id (fO h);have h3:=Vl id e h o_;rw[aJ adW acZ rfl];simp only[Um]at h1 h2 h3;generalize de id=low at *;generalize cx id=w at *;generalize d9 id=dim at *;generalize bK id=pl at *;generalize bm id=mn at *;generalize mr id e=V at *;simp (maxSteps:=300000) (disch:=omega) [h1,h2,h3,↓aa]
def rN (b:C_) (st:RS) (s:Int):RS:=if st.e=0 then (if eO b st.a s=0 then ⟨nO b st.a s,0⟩ else ⟨st.a,eO b st.a s⟩) else st
theorem Ro {b:C_}{st:RS}{s:Int}(hb:b.length<=1000000000) (h:st.fit):(rN b st s).fit:=by
 unfold rN;have:=ali (b:=b) (a:=st.a) (s:=s);have h2:i64 st.a:=h;split
 .split
  .show i64 _;simp only[];omega
  .exact h
 .exact h
abbrev rdC (b:C_) (st:RS):Obj:=.cells [.d (.lst (am b)),A_ (ra st),A_ (re st)]
abbrev h4 (b:C_) (X0 X1 X3:Obj) (st:RS):ak:=[(0,X0),(1,X1),(2,rdC b st),(3,X3)]
def M7 (b:C_) (hb:b.length<=1000000000) (X0 X1 X3:Obj) (N:Nat) (st:RS) (s:Int) (hf:st.fit):(Dn prog).call yy [.ptr 2 0,A_ s] ⟨h4 b X0 X1 X3 st,N⟩ =
  some (A_ (sV b st s),⟨h4 b X0 X1 X3 (rN b st s),N⟩):=by
 rw[ba TF T7 rfl];obtain⟨a,e⟩:=st;have hf:i64 a:=hf;by_cases he:e=0
 .subst he;by_cases h2:eO b a s=0
  .simp (config := { maxSteps:=1000000 }) (disch:=omega) [J3,ra,re,sV,rN,h2]
  .simp (config := { maxSteps:=1000000 }) (disch:=omega) [J3,ra,re,sV,rN,h2]
 .simp (config := { maxSteps:=1000000 }) (disch:=omega) [ra,re,sV,rN,he]
def jc (b:C_):Nat->Nat->RS->Nat×RS
 | 0,m,st=>(m,st)
 | f+1,m,st=>if sV b st 1=1∧re (rN b st 1)=0 then jc b f (m+1) (if 8<m+1 then ⟨ra (rN b st 1),8⟩ else rN b st 1) else (m,rN b st 1)
def TG (b:C_) (hb:b.length<=1000000000) (X0 X1 X3:Obj) (N:Nat):∀ (f m:Nat) (st:RS),f+m=10->m<=9->st.fit->(m=9->st.e≠0)->
  (Dn prog).code (.loop kw) ⟨[(0,.ptr 2 0),(3,A_ m)],⟨h4 b X0 X1 X3 st,N⟩⟩ =
  some (.exit 0,⟨[(0,.ptr 2 0),(3,A_ ((jc b f m st).1))],⟨h4 b X0 X1 X3 (jc b f m st).2,N⟩⟩):=by
 intro f
 induction f with
 | zero=>intro m st h1 h0 h2 h3;omega
 | succ f ih =>
  intro m st h1 h0 h2 h3;rw[ah Jj,jc];have hg:=M7 b hb X0 X1 X3 N st 1 h2;have hf:=Ro (s:=1) hb h2;simp only[h4]at hg;by_cases hc:sV b st 1=1∧re (rN b st 1)=0
  .rw[ac hc];have he:st.e=0:=by
    have:=hc.1;unfold sV at this;by_cases h:st.e=0
    .exact h
    .rw[aa h]at this;omega
   have hm:m≠9:=fun h=>h3 h he
   by_cases h8:8<m+1
   .rw[ac h8];have ih:=ih (m+1) ⟨ra (rN b st 1),8⟩ o_ o_ hf (fun _=>by simp);simp only[h4,show ra (⟨ra (rN b st 1),8⟩:RS)=ra (rN b st 1) from rfl,show re (⟨ra (rN b st 1),8⟩:RS)=8 from rfl]at ih⊢;rw[<-ih];simp (maxSteps:=300000) (disch:=omega) [hg,hc.1,hc.2,↓ac,↓aa];rfl
   .rw[aa h8];have ih:=ih (m+1) (rN b st 1) o_ o_ hf (fun h=>by omega);simp only[h4]at ih⊢;rw[<-ih];simp (maxSteps:=300000) (disch:=omega) [hg,hc.1,hc.2,↓ac,↓aa]
  .rw[aa hc];by_cases h1:sV b st 1=1
   .have h2:¬ re (rN b st 1)=0:=fun h=>hc ⟨h1,h⟩
    simp (maxSteps:=300000) (disch:=omega) [hg,h1,h2,↓ac,↓aa]
   .simp (maxSteps:=300000) (disch:=omega) [hg,h1,↓ac,↓aa]
def VO {b:C_}:∀ {f m:Nat}{st:RS},(jc b f m st).1<=m+f
 | 0,m,st=>by simp[jc]
 | f+1,m,st=>by
  rw[jc];split
  .have:=VO (b:=b) (f:=f) (m:=m+1) (st:=if 8<m+1 then ⟨ra (rN b st 1),8⟩ else rN b st 1);omega
  .simp only[];omega
def RK {b:C_}(hb:b.length<=1000000000):∀ {f m:Nat}{st:RS},st.fit->(jc b f m st).2.fit
 | 0,m,st,h=>by simpa [jc] using h
 | f+1,m,st,h=>by
  have hr:=Ro (s:=1) hb h;rw[jc];split
  .refine RK hb ?_;split
   .exact hr
   .exact hr
  .exact hr
def Qu (b:C_) (st:RS):Nat:=2 ^ ((jc b 10 0 st).1+4)+sV b (jc b 10 0 st).2 (((jc b 10 0 st).1+4:Nat):Int)
def Gj (b:C_) (st:RS):RS:=rN b (jc b 10 0 st).2 (((jc b 10 0 st).1+4:Nat):Int)
def asn {b:C_}{st:RS}(hb:b.length<=1000000000) (h:st.fit):(Gj b st).fit:=Ro hb (RK hb h)
def akf {b:C_}{st:RS}:Qu b st<32768:=by
 unfold Qu;have h1:=VO (b:=b) (f:=10) (m:=0) (st:=st);have h2:=vV (b:=b) (st:=(jc b 10 0 st).2) (s:=(((jc b 10 0 st).1+4:Nat):Int));rw[au]at h2;have h3:2 ^ ((jc b 10 0 st).1+4)<=2 ^ 14:=aw o_ o_;omega
def abx (b:C_) (hb:b.length<=1000000000) (X0 X1 X3:Obj) (N:Nat) (st:RS) (hf:st.fit):(Dn prog).call AN [.ptr 2 0] ⟨h4 b X0 X1 X3 st,N⟩ =
  some (A_ (Qu b st),⟨h4 b X0 X1 X3 (Gj b st),N⟩):=by
 rw[ba MN Lz rfl];have hl:=TG b hb X0 X1 X3 N 10 0 st rfl o_ hf o_;have hv:=akf (b:=b) (st:=st);have h1:=VO (b:=b) (f:=10) (m:=0) (st:=st);have hf2:=RK (f:=10) (m:=0) hb hf;unfold Qu Gj at *;generalize jc b 10 0 st=p at *;obtain⟨m,s2⟩:=p;simp only at hl hv h1 hf2⊢;have hg:=M7 b hb X0 X1 X3 N s2 ((m+4:Nat):Int) hf2;have c0:((0:Nat):Int)=0:=rfl;have hs:=Tk (m:=m+4) o_;have c1:((m+4:Nat):Int)=(m:Int)+4:=o_;simp only[c0,h4,c1]at hl hg hs;have hpos:0<2 ^ (m+4):=bO _;have c2:((2 ^ (m+4)+sV b s2 ((m:Int)+4):Nat):Int)=((2 ^ (m+4):Nat):Int)+sV b s2 ((m:Int)+4):=o_;simp only[h4,c1,c2];rw[c1]at hv;generalize 2 ^ (m+4)=P at *;simp (maxSteps:=300000) (disch:=omega) [hl,hg,hs,-rX]
def Bh (b:C_):G_->RS->C_
 | [],_=>[]
 | v::r,st=>if v=0 then 0::Bh b r st else sV b st 1::Bh b r (rN b st 1)
def vG (b:C_):G_->RS->RS
 | [],st=>st
 | v::r,st=>if v=0 then vG b r st else vG b r (rN b st 1)
def sg (s:Nat) (v:Int):Int:=if s=1 then -v else v
def In (b:C_) (id:Nat):G_->C_->RS->G_
 | v::r,s::ss,st=>if id=11∧v=16 then sg s (Qu b st)::In b id r ss (Gj b st) else sg s v::In b id r ss st
 | _,_,_=>[]
def zh (b:C_) (id:Nat):G_->C_->RS->RS
 | v::r,_::ss,st=>if id=11∧v=16 then zh b id r ss (Gj b st) else zh b id r ss st
 | _,_,st=>st
def Tc {α:Type}{a r:List α}{x y:α}:(a++x::r).set a.length y=a++y::r:=by
 rw[nE _ _ o_];simp
def arW {a r:C_}{x:Nat}:nth (a++x::r) a.length=x:=by simp[nth]
def Vj {a r:G_}{x:Int}:nth (a++x::r) a.length=x:=by simp[nth]
def aiM (b:C_) (hb:b.length<=1000000000) (X0:Obj) (N:Nat) (vals:G_) (hl:vals.length<=100):∀ (vs:G_) (pre:G_) (sgn:C_) (st:RS),vals=pre++vs->sgn.length=pre.length->st.fit->
  (Dn prog).code (.loop uI) ⟨[(5,.ptr 0 0),(6,.sl 1 0 vals.length),(10,.ptr 2 0),(11,.sl 3 0 vals.length),(51,.sl 1 0 vals.length),(52,A_ vals.length),(53,A_ pre.length)],⟨h4 b X0 (.arr 1 (aF vals)) (.arr 1 (cR (sgn++List.replicate vs.length 0))) st,N⟩⟩ =
  some (.exit 0,⟨[(5,.ptr 0 0),(6,.sl 1 0 vals.length),(10,.ptr 2 0),(11,.sl 3 0 vals.length)],⟨h4 b X0 (.arr 1 (aF vals)) (.arr 1 (cR (sgn++Bh b vs st))) (vG b vs st),N⟩⟩):=by
 intro vs
 induction vs with
 | nil =>
  intro pre sgn st h1 h2 h3;rw[bg]at h1;subst h1;rw[ah PE];simp (maxSteps:=300000) (disch:=omega) [↓aa,Bh,vG]
 | cons v vs ih =>
  intro pre sgn st h1 h2 h3;have hlen:vals.length=pre.length+(vs.length+1):=by rw[h1];simp
  have hgv:nth vals pre.length=v:=by rw[h1];exact Vj
  have hgi:(aF vals)[pre.length]?=some [.int .i64 v]:=by rw[IZ o_,hgv]
  have hg:=fun X1 X3=>M7 b hb X0 X1 X3 N st 1 h3
  rw[ah PE,aq,cy];have hsl:(cR (sgn++0::List.replicate vs.length 0))[pre.length]?=some [.int .i64 0]:=by
   rw[En g_,<-h2,arW];rfl
  simp only[h4]at hg⊢;by_cases hv:v=0
  .subst hv;have ih:=ih (pre++[0]) (sgn++[0]) st (by rw[h1];simp) (by simp[h2]) h3;simp only[h4]at ih;simp only[Bh,vG,bf];simp (maxSteps:=300000) (disch:=omega) [↓ac,↓aa,hgi];simp at ih;exact ih
  .have ih:=ih (pre++[v]) (sgn++[sV b st 1]) (rN b st 1) (by rw[h1];simp) (by simp[h2]) (Ro hb h3);simp only[h4]at ih;simp only[Bh,vG,aa hv];simp (maxSteps:=300000) (disch:=omega) [↓ac,↓aa,hgi,hv,hg,hsl];simp at ih;exact ih
def aiv (b:C_) (hb:b.length<=1000000000) (id:Nat) (pl:Int) (x2 x3:AV) (N len:Nat) (hlen:len<=100) (sgn:C_) (hsg:sgn.length=len):∀ (vs:G_) (done:G_) (st:RS),done.length+vs.length=len->(∀ v∈vs,0<=v∧v<=130)->st.fit->
  (Dn prog).code (.loop uJ) ⟨[(5,.ptr 0 0),(6,.sl 1 0 len),(10,.ptr 2 0),(11,.sl 3 0 len),(66,.sl 1 0 len),(67,A_ len),(68,A_ done.length)],⟨h4 b (.cells [A_ id,A_ pl,x2,x3]) (.arr 1 (aF (done++vs))) (.arr 1 (cR sgn)) st,N⟩⟩ =
  some (.exit 2,⟨[(6,.sl 1 0 len),(10,.ptr 2 0)],⟨[(1,.arr 1 (aF (done++In b id vs (sgn.drop done.length) st))),(2,rdC b (zh b id vs (sgn.drop done.length) st)),(3,.arr 1 (cR sgn))],N⟩⟩):=by
 intro vs
 induction vs with
 | nil =>
  intro done st h1 h2 h3;rw[ah Py];have:done.length=len:=by simpa using h1
  simp (maxSteps:=300000) (disch:=omega) [↓aa,In,zh]
 | cons v vs ih =>
  intro done st h1 h2 h3;have hv:=h2 v s_;have h1:done.length+(vs.length+1)=len:=by simpa using h1
  have hgi:(aF (done++v::vs))[done.length]?=some [.int .i64 v]:=by rw[IZ s_,Vj]
  have hgs:(cR sgn)[done.length]?=some [.int .i64 (nth sgn done.length:Nat)]:=En o_;have hset:∀ x:Int,(aF (done++v::vs)).set done.length [.int .i64 x]=aF (done++x::vs):=fun x=>by rw[agN,Tc]
  have hset2:∀ y x:Int,(aF (done++y::vs)).set done.length [.int .i64 x]=aF (done++x::vs):=fun y x=>by rw[agN,Tc]
  have hgi2:∀ x:Int,(aF (done++x::vs))[done.length]?=some [.int .i64 x]:=fun x=>by rw[IZ s_,Vj]
  have hE:=fun X1 X3=>abx b hb (.cells [A_ id,A_ pl,x2,x3]) X1 X3 N st h3
  have hel:=akf (b:=b) (st:=st);rw[ah Py,qA o_,In,zh];simp only[h4]at hE⊢;by_cases hid:id=11∧v=16
  .obtain⟨rfl,rfl⟩:=hid;rw[ac ⟨rfl,rfl⟩,ac ⟨rfl,rfl⟩];have ih:=ih (done++[sg (nth sgn done.length) (Qu b st)]) (Gj b st) g_ (fun x hx=>h2 x (by simp[hx])) (asn hb h3);simp only[h4]at ih;simp at ih;have c11:((11:Nat):Int)=11:=rfl;simp only[c11]at hE;by_cases hs:nth sgn done.length=1
   .simp only[sg,ac hs]at ih⊢;simp (maxSteps:=300000) (disch:=omega) [↓ac,↓aa,hgi,hE,hset,hgs,hgi2,hset2,hs];exact ih
   .simp only[sg,aa hs]at ih⊢;simp (maxSteps:=300000) (disch:=omega) [↓ac,↓aa,hgi,hE,hset,hgs,hgi2,hset2,hs];exact ih
  .rw[aa hid,aa hid];have ih:=ih (done++[sg (nth sgn done.length) v]) st g_ (fun x hx=>h2 x (by simp[hx])) h3;simp only[h4]at ih;simp at ih;by_cases hi:id=11
   .subst hi;have c11:((11:Nat):Int)=11:=rfl;have hv2:v≠16:=fun h=>hid ⟨rfl,h⟩
    by_cases hs:nth sgn done.length=1
    .simp only[sg,ac hs]at ih⊢;simp (maxSteps:=300000) (disch:=omega) [↓ac,↓aa,hgi,hset,hgs,hgi2,hset2,hs,hv2];exact ih
    .simp only[sg,aa hs]at ih⊢;simp (maxSteps:=300000) (disch:=omega) [↓ac,↓aa,hgi,hset,hgs,hgi2,hset2,hs,hv2];exact ih
   .by_cases hs:nth sgn done.length=1
    .simp only[sg,ac hs]at ih⊢;simp (maxSteps:=300000) (disch:=omega) [↓ac,↓aa,hgi,hset,hgs,hgi2,hset2,hs];exact ih
    .simp only[sg,aa hs]at ih⊢;simp (maxSteps:=300000) (disch:=omega) [↓ac,↓aa,hgi,hset,hgs,hgi2,hset2,hs];exact ih
def kz (b:C_):G_->Nat->R C_
 | [],a=>.ok [] a
 | v::r,a=>if v=0 then (kz b r a).bind fun l n=>.ok (0::l) n else (bc b a 1).bind fun s n=>(kz b r n).bind fun l n=>.ok (s::l) n
def xS (b:C_):Nat->Nat->Nat->R Nat
 | 0,_,_=>.er 7
 | f+1,m,a=>(bc b a 1).bind fun v n=>if v=1 then xS b f (m+1) n else .ok m n
def OP (b:C_) (a:Nat):R Nat:=(xS b 9 0 a).bind fun m n=>(bc b n ((m+4:Nat):Int)).bind fun x n=>.ok (2 ^ (m+4)+x) n
def mo (b:C_) (id:Nat):G_->C_->Nat->R G_
 | v::r,s::ss,a=>if id=11∧v=16 then (OP b a).bind fun x n=>(mo b id r ss n).bind fun l n=>.ok (sg s x::l) n else (mo b id r ss a).bind fun l n=>.ok (sg s v::l) n
 | _,_,a=>.ok [] a
def EI (id:Nat) (b:C_) (a:Int):R G_ :=
 (zA id b a).bind fun e n=>if kA id then .ok (mr id e) n else (kz b (mr id e) n).bind fun ss n=>mo b id (mr id e) ss n
def Sz {b:C_}{a s:Int}{v n:Nat}(h:bc b a s=.ok v n):sV b ⟨a,0⟩ s=v∧rN b ⟨a,0⟩ s=⟨n,0⟩:=by
 constructor<;>simp[sV,rN,vO,nO,eO,h]
def aeq {b:C_}{a s:Int}{e:Nat}(h:bc b a s=.er e):sV b ⟨a,0⟩ s=0∧rN b ⟨a,0⟩ s=⟨a,e+1⟩:=by
 constructor<;>simp[sV,rN,vO,nO,eO,h]
def agL {b:C_}{a s:Int}{e:Nat}:sV b ⟨a,e+1⟩ s=0∧rN b ⟨a,e+1⟩ s=⟨a,e+1⟩:=by
 constructor<;>simp[sV,rN]
def akz {b:C_}{a:Int}{e:Nat}{f m:Nat}:jc b f m ⟨a,e+1⟩=(m,⟨a,e+1⟩):=by
 cases f with
 | zero=>rfl
 | succ f=>rw[jc,agL.1,agL.2,aa s_]
def ay6 {b:C_}{a:Int}{e:Nat}:Gj b ⟨a,e+1⟩=⟨a,e+1⟩:=by
 rw[Gj,akz,agL.2]
def amj {b:C_}{a:Int}{e:Nat}:∀ {vs:G_},vG b vs ⟨a,e+1⟩=⟨a,e+1⟩
 | []=>rfl
 | v::r=>by
  rw[vG];split
  .exact amj
  .rw[agL.2];exact amj
theorem aep {b:C_}{id:Nat}{a:Int}{e:Nat}:∀ {vs:G_}{ss:C_},zh b id vs ss ⟨a,e+1⟩=⟨a,e+1⟩
 | [],_=>by simp[zh]
 | _::_,[]=>by simp[zh]
 | v::r,s::ss=>by
  rw[zh];split
  .rw[ay6];exact aep
  .exact aep
def asX {b:C_}:∀ {vs:G_}{a:Nat},match kz b vs a with
  | .ok l n=>Bh b vs ⟨a,0⟩=l∧vG b vs ⟨a,0⟩=⟨n,0⟩
  | .er e=>(vG b vs ⟨a,0⟩).e=e+1
 | [],a=>⟨rfl,rfl⟩
 | v::r,a=>by
  simp only[kz,Bh,vG];by_cases hv:v=0
  .simp only[ac hv];have ih:=asX (b:=b) (vs:=r) (a:=a)
   cases h:kz b r a with
   | ok l n=>rw[h]at ih;exact⟨by rw[ih.1],ih.2⟩
   | er e=>rw[h]at ih;exact ih
  .simp only[aa hv]
   cases h1:bc b a 1 with
   | ok s n =>
    rw[(Sz h1).1,(Sz h1).2,ay];have ih:=asX (b:=b) (vs:=r) (a:=n)
    cases h:kz b r n with
    | ok l n=>rw[h]at ih;exact⟨by rw[ih.1],ih.2⟩
    | er e=>rw[h]at ih;exact ih
   | er e=>rw[(aeq h1).2,cm];simp only[amj]
def apk {b:C_}:∀ {f m a:Nat},f+1+m=9->match xS b (f+1) m a with
  | .ok k n=>jc b (f+2) m ⟨a,0⟩=(k,⟨n,0⟩)
  | .er e=>(jc b (f+2) m ⟨a,0⟩).2.e=e+1
 | f,m,a,hm=>by
  rw[xS,jc]
  cases h1:bc b a 1 with
  | er e=>rw[(aeq h1).1,(aeq h1).2,cm,aa s_]
  | ok v n =>
   rw[(Sz h1).1,(Sz h1).2,ay];by_cases hv:v=1
   .subst hv;rw[ac rfl,ac ⟨rfl,rfl⟩]
    cases f with
    | zero =>
     rw[ac o_,xS];show (jc b 1 (m+1) ⟨ra ⟨n,0⟩,7+1⟩).2.e=7+1;rw[akz]
    | succ f =>
     rw[aa o_];exact apk (by omega)
   .rw[aa hv,aa (fun h=>hv h.1)]
def aAl {b:C_}{a:Nat}:match OP b a with
  | .ok v n=>Qu b ⟨a,0⟩=v∧Gj b ⟨a,0⟩=⟨n,0⟩
  | .er e=>(Gj b ⟨a,0⟩).e=e+1:=by
 rw[OP,Qu,Gj];have h:=apk (b:=b) (f:=8) (m:=0) (a:=a) rfl
 cases h1:xS b 9 0 a with
 | er e =>
  rw[h1]at h;generalize jc b 10 0 ⟨a,0⟩=p at *;obtain⟨m,x,y⟩:=p;simp only at h;subst h;simp only[agL,cm]
 | ok k n =>
  rw[h1]at h;rw[ay,h]
  cases h2:bc b n ((k+4:Nat):Int) with
  | er e=>simp only[(aeq h2).2,cm]
  | ok v m=>simp only[(Sz h2).1,(Sz h2).2,ay];exact⟨trivial,trivial⟩
def arK {b:C_}{id:Nat}:∀ {vs:G_}{ss:C_}{a:Nat},match mo b id vs ss a with
  | .ok l n=>In b id vs ss ⟨a,0⟩=l∧zh b id vs ss ⟨a,0⟩=⟨n,0⟩
  | .er e=>(zh b id vs ss ⟨a,0⟩).e=e+1
 | [],ss,a=>by simp[mo,In,zh]
 | v::r,[],a=>by simp[mo,In,zh]
 | v::r,s::ss,a=>by
  rw[mo,In,zh];by_cases hc:id=11∧v=16
  .simp only[ac hc];have h:=aAl (b:=b) (a:=a)
   cases h1:OP b a with
   | er e =>
    rw[h1]at h;generalize Gj b ⟨a,0⟩=p at *;obtain⟨x,y⟩:=p;simp only at h;subst h;simp only[aep,cm]
   | ok x n =>
    rw[h1]at h;rw[h.1,h.2,ay];have ih:=arK (b:=b) (id:=id) (vs:=r) (ss:=ss) (a:=n)
    cases h2:mo b id r ss n with
    | ok l n=>rw[h2]at ih;exact⟨by rw[ih.1],ih.2⟩
    | er e=>rw[h2]at ih;exact ih
  .simp only[aa hc];have ih:=arK (b:=b) (id:=id) (vs:=r) (ss:=ss) (a:=a)
   cases h2:mo b id r ss a with
   | ok l n=>rw[h2]at ih;exact⟨by rw[ih.1],ih.2⟩
   | er e=>rw[h2]at ih;exact ih
abbrev It:VC:=(.seq GE (.seq EG (.seq (.seq DE (.block 0 (.seq (.loop uI) (K [51,52,53])))) (.seq (.seq D2 (.block 2 (.seq (.loop uJ) (.seq (K [11,66,67,68]) (F 5))))) (.seq (.seq EA (.cond (.m 103) (.seq (K [6]) (.seq xF .ret)) .skip)) (.seq xn .ret))))))
def ab3 {low:Int}{w:Nat}:∀ {d e:Nat},(lQ low w d e).length=d
 | 0,_=>rfl
 | d+1,e=>by simp[lQ,ab3]
def Il {low:Int}{w:Nat}(hw:1<=w):∀ {d e:Nat},∀ x∈lQ low w d e,low<=x∧x<low+w
 | 0,_,x,h=>by simp[lQ]at h
 | d+1,e,x,h=>by
  rw[lQ,be]at h;have:=dW e (show w > 0 by omega);rcases h with h | h
  .exact Il hw x h
  grind
theorem EY {id e:Nat}:(mr id e).length=d9 id:=ab3
def ahr:∀ id∈ids,kA id=false->de id=0:=e_
def alK (b:C_) (hb:b.length<=1000000000) (id:Nat) (pl:Int) (x2 x3:AV) (vals:G_) (hl:1<=vals.length∧vals.length<=100) (hv:∀ v∈vals,0<=v∧v<=130) (n:Nat) (hn:n<=b.length) (hx2:bw x2=true) :
  tD (wn [.tmp 6,.tmp 7,.tmp 8] ((Dn prog).code It ⟨[(0,.d (.lst (am b))),(5,.ptr 0 0),(6,.sl 1 0 vals.length),(7,A_ n)],⟨[(0,.cells [A_ id,A_ pl,x2,x3]),(1,.arr 1 (aF vals))],2⟩⟩)) =
  if re (zh b id vals (Bh b vals ⟨n,0⟩) (vG b vals ⟨n,0⟩))=0 then some (.tup [.own true 1 (aF (In b id vals (Bh b vals ⟨n,0⟩) (vG b vals ⟨n,0⟩))),A_ ((ra (zh b id vals (Bh b vals ⟨n,0⟩) (vG b vals ⟨n,0⟩)))),A_ 0])
  else some (.tup [.nl,A_ 0,A_ ((re (zh b id vals (Bh b vals ⟨n,0⟩) (vG b vals ⟨n,0⟩))))]):=by
 have hf:RS.fit ⟨n,0⟩:=by show i64 _;grind
 have sgl:∀ (vs:G_) (st:RS),(Bh b vs st).length=vs.length:=by
  intro vs
  induction vs<;>grind [Bh]
 have sgf:∀ (vs:G_) (st:RS),st.fit->(vG b vs st).fit:=by
  intro vs
  induction vs<;>grind [vG,Ro]
 have l0:=fun X0=>aiM b hb X0 4 vals hl.2 vals [] [] ⟨n,0⟩ s_ rfl hf
 have l1:=aiv b hb id pl x2 x3 4 vals.length hl.2 (Bh b vals ⟨n,0⟩) (sgl _ _) vals [] (vG b vals ⟨n,0⟩) s_ hv (sgf _ _ hf);have vll:(In b id vals (Bh b vals ⟨n,0⟩) (vG b vals ⟨n,0⟩)).length=vals.length:=by
  have:∀ (vs:G_) (ss:C_) (st:RS),ss.length=vs.length->(In b id vs ss st).length=vs.length:=by
   intro vs
   induction vs with
   | nil=>grind [In]
   | cons v r ih =>
    intro ss st h
    cases ss<;>grind [In]
  simp_all
 have hz:cR (List.replicate vals.length 0)=List.replicate vals.length [.int .i64 0]:=by simp[cR]
 have c0:((0:Nat):Int)=0:=rfl;simp only[aO,bu,wC,h4,rdC,hz,c0,aAg,aBk]at l0 l1;simp (disch:=omega) [l0,l1,DT]
 grind
def arM {b:C_}{id:Nat}{vals:G_}{n:Nat}{γ:Type}{F:G_->Int->γ}{G:Nat->γ} :
  (if re (zh b id vals (Bh b vals ⟨n,0⟩) (vG b vals ⟨n,0⟩))=0 then F (In b id vals (Bh b vals ⟨n,0⟩) (vG b vals ⟨n,0⟩)) (ra (zh b id vals (Bh b vals ⟨n,0⟩) (vG b vals ⟨n,0⟩)))
  else G (re (zh b id vals (Bh b vals ⟨n,0⟩) (vG b vals ⟨n,0⟩))))=match (kz b vals n).bind fun ss n=>mo b id vals ss n with
   | .ok l n=>F l n
   | .er e=>G (e+1):=by
 have h1:=asX (b:=b) (vs:=vals) (a:=n)
 cases h2:kz b vals n with
 | er e =>
  generalize vG b vals ⟨n,0⟩=p at *;obtain⟨x,y⟩:=p
  grind [aep,cm,re]
 | ok ss m =>
  rw[h2]at h1;rw[h1.1,h1.2,ay];have h3:=arK (b:=b) (id:=id) (vs:=vals) (ss:=ss) (a:=m)
  cases h4:mo b id vals ss m with
  | er e =>
   rw[h4]at h3;have h5:re (zh b id vals ss ⟨m,0⟩)=e+1:=h3
   simp_all
  | ok l k =>
   rw[h4]at h3;rw[h3.1,h3.2];rfl
abbrev pH (b:C_) (id:Nat) (l:G_) (n:Nat):Prop:=l.length=d9 id∧n<=b.length∧∀ x∈l,-40000<=x∧x<=40000
def OX {b:C_}:∀ {vs:G_}{a:Nat}{l:C_}{n:Nat},a<=b.length->kz b vs a=.ok l n->l.length=vs.length∧n<=b.length
 | [],a,l,n,ha,h=>by
  grind [kz]
 | v::r,a,l,n,ha,h=>by
  simp only[kz]at h;by_cases hv:v=0
  .cases h1:kz b r a with
   | er e=>simp_all
   | ok l2 n2 =>
    have ih:=OX ha h1
    grind [ay]
  .cases h0:bc b a 1 with
   | er e=>simp_all
   | ok s m =>
    cases h1:kz b r m with
    | er e=>simp_all
    | ok l2 n2 =>
     have ih:=OX (ed h0).2 h1
     grind [ay]
def akY {b:C_}:∀ {f m a k n:Nat},f+m=9->xS b f m a=.ok k n->k<=8∧n<=b.length
 | 0,_,_,_,_,_,h=>absurd h (by simp[xS])
 | f+1,m,a,k,n,hf,h=>by
  rw[xS]at h
  cases h1:bc b a 1 with
  | er e=>simp_all
  | ok v a1 =>
   rw[h1,ay]at h;by_cases hv:v=1
   .rw[ac hv]at h;exact akY o_ h
   .rw[aa hv]at h;injection h with e1 e2
    subst e1 e2;exact⟨o_,(ed h1).2⟩
def ayX {b:C_}{a v n:Nat}(h:OP b a=.ok v n):v<=30000∧n<=b.length:=by
 rw[OP]at h
 cases h1:xS b 9 0 a with
 | er e=>simp_all
 | ok m n1 =>
  have hp:=akY rfl h1;rw[h1,ay]at h
  cases h2:bc b n1 ((m+4:Nat):Int) with
  | er e=>simp_all
  | ok x n2 =>
   have hq:=ed h2;rw[h2,ay]at h;have h3:2 ^ (m+4)<=2 ^ 12:=aw o_ (by omega)
   grind
theorem Tz {b:C_}{id:Nat}:∀ {vs:G_}{ss:C_}{a:Nat}{l:G_}{n:Nat},a<=b.length->ss.length=vs.length->(∀ v∈vs,-100<=v∧v<=130)->mo b id vs ss a=.ok l n->l.length=vs.length∧n<=b.length∧∀ x∈l,-40000<=x∧x<=40000
 | [],ss,a,l,n,ha,hs,hv,h=>by
  grind [mo]
 | v::r,[],a,l,n,ha,hs,hv,h=>by simp at hs
 | v::r,s::ss,a,l,n,ha,hs,hv,h=>by
  have hs2:ss.length=r.length:=u_;have hv2:∀ v∈r,-100<=v∧v<=130:=fun x hx=>hv x (by simp[hx])
  have hv1:=hv v s_;have hsg:∀ y:Int,-40000<=y->y<=40000->-40000<=sg s y∧sg s y<=40000:=fun y h1 h2=>by grind [sg]
  rw[mo]at h;by_cases hc:id=11∧v=16
  .rw[ac hc]at h
   cases h1:OP b a with
   | er e=>simp_all
   | ok x n1 =>
    have hp:=ayX h1;rw[h1,ay]at h
    cases h2:mo b id r ss n1 with
    | er e=>simp_all
    | ok l2 n2 =>
     obtain⟨i1,i2,i3⟩:=Tz hp.2 hs2 hv2 h2
     grind [ay]
  .rw[aa hc]at h
   cases h2:mo b id r ss a with
   | er e=>simp_all
   | ok l2 n2 =>
    obtain⟨i1,i2,i3⟩:=Tz ha hs2 hv2 h2
    grind [ay]
def SI {id:Nat}{b:C_}{a:Int}{e n:Nat}(hid:ju id) (h:zA id b a=.ok e n):e<bm id∧n<=b.length:=by
 rw[zA]at h
 cases z1:mi b 10 0 a with
 | er e=>simp_all
 | ok m m1 =>
  rw[z1,ay]at h
  cases z2:bc b m1 m with
  | er e=>simp_all
  | ok hi m2 =>
   rw[z2,ay]at h
   cases z3:bc b m2 (bK id) with
   | er e=>simp_all
   | ok lo m3 =>
    rw[z3,ay]at h;by_cases hc:(cg id).length<=(2 ^ m+hi-1)*2 ^ bK id+lo
    .simp_all
    .rw[aa hc]at h;injection h with e1 e2
     subst e1 e2;exact⟨(Kh o_).2.2.2 _ (jg o_),(ed z3).2⟩
def avH {id:Nat}{b:C_}{a:Int}{l:G_}{n:Nat}(hid:ju id) (h:EI id b a=.ok l n):pH b id l n:=by
 obtain⟨k1,k2,k3,k4,k5,k6,k7⟩:=lT id (fO hid);rw[EI]at h
 cases h1:zA id b a with
 | er e=>simp_all
 | ok e n1 =>
  have hp:=(SI hid h1).2;have hv:∀ v∈mr id e,-100<=v∧v<=200:=fun v hv=>by
   have:=Il (low:=de id) (w:=cx id) k3 (d:=d9 id) (e:=e) v hv;omega
  rw[h1,ay]at h;by_cases hs:kA id=true
  .grind [EY]
  .rw[aa hs]at h
   cases h2:kz b (mr id e) n1 with
   | er e=>simp_all
   | ok ss n2 =>
    have hq:=OX hp h2;rw[h2,ay]at h;have hv2:∀ v∈mr id e,-100<=v∧v<=130:=fun v hv=>by
     have:=Il (low:=de id) (w:=cx id) k3 (d:=d9 id) (e:=e) v hv;omega
    have:=Tz hq.2 hq.1 hv2 h
    grind [EY]
def asB (id:Nat) (b:C_) (a:Int) (hb:b.length<=1000000000) (ha:i64 a) (hid:1<=id∧id<=11):br prog xK [.d (.lst (am b)),A_ a,nD id] =
  rK (pH b id) (EI id b a) (fun l n=>some (.tup [.own true 1 (aF l),A_ n,A_ 0])) (fun e=>some (.tup [.nl,A_ 0,A_ (e+1)])):=by
 have hok:ju id:=⟨hid.1,o_⟩
 have hr:=acM id b a hb ha hok;have hsg:=Qv id (by
  obtain⟨h1,h2⟩:=hid;simp only[ids,List.take,az,cQ,fh];omega)
 have hV:=fun e he=>UR id e hok he
 obtain⟨k1,k2,k3,k4,k5,k6,k7⟩:=lT id (fO hok);have hus:=ahr id (fO hok);rw[aJ alv aly rfl];obtain⟨T,ht⟩:∃ T,T=It:=⟨_,rfl⟩
 have hT:=fun pl x2 x3 vals hl hv n hn hx2=>alK b hb id pl x2 x3 vals hl hv n hn hx2
 rw[<-ht]at hT;unfold It at ht;rw[<-ht];simp only[nD]at hr⊢;rw[EI,xz (q:=fun e n=>e<bm id∧n<=b.length) (fun e n h=>SI hok h)];have hbl:∀ e,(mr id e).length=d9 id:=fun e=>EY
 have hbi:=fun e=>Il (low:=de id) (w:=cx id) k3 (d:=d9 id) (e:=e)
 generalize hes:cg id=es at *;generalize hrs:dC id=rs at *;generalize hpl:bK id=pl at *;simp (maxSteps:=300000) (disch:=omega) [hr,↓ac,↓aa];refine jS (fun _ _=>rfl) (fun e n hp=>?_) fun _=>rfl
 have hVe:=hV e hp.1;have hie:=hbi e;simp only[mr]at hVe hbl⊢;have hble:=hbl e;generalize lQ (de id) (cx id) (d9 id) e=vals at *;by_cases hs:kA id=true
 .rw[ac hs,eI ⟨hble,hp.2,fun x hx=>by grind⟩];simp (disch:=omega) [hVe,hsg,hs,↓ac,↓aa]
 .have hs2:kA id=false:=d_;have hT2:=hT pl (.d (.lst (cR es))) (.d (.lst (cR rs))) vals o_ (fun v hv=>by grind) n hp.2 rfl;simp (disch:=omega) [hVe,hsg,hs2,↓ac];rw[hT2];refine(arM (γ:=M_) (F:=fun l n=>some (.tup [.own true 1 (aF l),A_ n,A_ 0])) (G:=fun e=>some (.tup [.nl,A_ 0,A_ e]))).trans ?_
  cases h1:kz b vals n with
  | er e=>simp[rK]
  | ok ss m =>
   have hq:=OX hp.2 h1
   grind [ay,rK,Tz]
abbrev fj:=@Nat.mod_eq_of_lt
def Id (b:C_) (a:Int):R Int:=(zA 12 b a).bind fun e n=>.ok ((e:Int)-60) n
abbrev pSt (b:C_) (d:Int) (n:Nat):Prop:=(-60<=d∧d<=60)∧n<=b.length
def avq {γ:Type}{b:C_}{a:Int}{F:Int->Nat->γ}{G:Nat->γ}:rK (pSt b) (Id b a) F G=rK (fun e n=>e<bm 12∧n<=b.length) (zA 12 b a) (fun e n=>F ((e:Int)-60) n) G:=by
 rw[Id,xz (q:=fun e n=>e<bm 12∧n<=b.length) (fun e n h=>SI o_ h)];refine jS (fun _ _=>rfl) (fun e n hp=>?_) fun _=>rfl
 have h1:e<121:=hp.1;rw[eI ⟨o_,hp.2⟩]
def agH (b:C_) (a:Int) (hb:b.length<=1000000000) (ha:i64 a):br prog MF [.d (.lst (am b)),A_ a] =
  rK (pSt b) (Id b a) (fun d n=>some (.tup [A_ d,A_ n,A_ 0])) (fun e=>some (.tup [A_ 0,A_ 0,A_ (e+1)])):=by
 have hok:ju 12:=o_;have hr:=acM 12 b a hb ha hok;have hg:=Wn 12 hok;have hV:=fun e he=>UR 12 e hok he
 have c12:((12:Nat):Int)=12:=rfl;rw[aJ ZL ZV rfl,avq];simp only[nD,W6,c12]at hr hg hV⊢;generalize hes:cg 12=es at *;generalize hrs:dC 12=rs at *;generalize hpl:bK 12=pl at *;simp (maxSteps:=300000) (disch:=omega) [hr,hg,↓ac,↓aa];refine jS (fun _ _=>rfl) (fun e n hp=>?_) fun _=>rfl
 have h1:e<121:=hp.1;have hv:aF (mr 12 e)=[[.int .i64 ((e:Int)-60)]]:=by
  show aF [((e % 121:Nat):Int)+-60]=_;rw[fj h1];rfl
 have hVe:=hV e hp.1;rw[hv]at hVe;simp (maxSteps:=300000) (disch:=omega) [hVe]
structure H2 (hp:Int->Int->ak) (A:Nat):Prop where
 get:∀ s z,get (hp s z) A=some (.cells [A_ s,A_ z])
 put:∀ s z s' z',put (hp s z) A (.cells [A_ s',A_ z'])=hp s' z'
abbrev lO (book n s z:Int):Prop:=if book=13 then (0<=n∧n<=511)∧(z<0∨(z-60<=n∧n<=z+60)) else (0<=n∧n<=255)∧(s-60<=n∧n<=s+60)
def Nk {hp:Int->Int->ak}{A:Nat}(H:H2 hp A) (book n s z:Int) (N:Nat) (hn:-100000<=n∧n<=100000) (hs:-100000<=s∧s<=100000) (hz:-100000<=z∧z<=100000) :
  (Dn prog).call pW [.ptr A 0,A_ book,A_ n] ⟨hp s z,N⟩ =
   if lO book n s z then some (B_ true,⟨if book=13 then hp s n else hp n z,N⟩) else some (B_ false,⟨hp s z,N⟩):=by
 rw[ba Q7 Q3 rfl];by_cases hb:book=13
 .by_cases ho:(0<=n∧n<=511)∧(z<0∨(z-60<=n∧n<=z+60))
  .rw[ac (by rw[lO,ac hb];exact ho),ac hb];subst hb;rcases ho with ⟨⟨o1,o2⟩,o3 | ⟨o3,o4⟩⟩
   .simp (maxSteps:=300000) (disch:=omega) [↓ac,↓aa,H.get,H.put]
   .by_cases hz0:z<0
    .simp (maxSteps:=300000) (disch:=omega) [↓ac,↓aa,H.get,H.put]
    .simp (maxSteps:=300000) (disch:=omega) [↓ac,↓aa,H.get,H.put]
  .rw[aa (by rw[lO,ac hb];exact ho)];subst hb;by_cases o1:n<0
   .simp (maxSteps:=300000) (disch:=omega) [↓ac,↓aa,H.get,H.put]
   .by_cases o2:511<n
    .simp (maxSteps:=300000) (disch:=omega) [↓ac,↓aa,H.get,H.put]
    .by_cases o3:n<z-60
     .simp (maxSteps:=300000) (disch:=omega) [↓ac,↓aa,H.get,H.put]
     .simp (maxSteps:=300000) (disch:=omega) [↓ac,↓aa,H.get,H.put]
 .by_cases ho:(0<=n∧n<=255)∧(s-60<=n∧n<=s+60)
  .rw[ac (by rw[lO,aa hb];exact ho),aa hb];obtain⟨⟨o1,o2⟩,o3,o4⟩:=ho;simp (maxSteps:=300000) (disch:=omega) [↓ac,↓aa,H.get,H.put]
  .rw[aa (by rw[lO,aa hb];exact ho)];by_cases o1:n<0
   .simp (maxSteps:=300000) (disch:=omega) [↓ac,↓aa,H.get,H.put]
   .by_cases o2:255<n
    .simp (maxSteps:=300000) (disch:=omega) [↓ac,↓aa,H.get,H.put]
    .by_cases o3:n<s-60
     .simp (maxSteps:=300000) (disch:=omega) [↓ac,↓aa,H.get,H.put]
     .simp (maxSteps:=300000) (disch:=omega) [↓ac,↓aa,H.get,H.put]
abbrev jC:=@List.drop_drop
def wZ {l:P_}{i:Nat}{s:aU}{r:P_}(h:l.drop i=s::r):(gI l)[i]?=some [.int .i64 s.book,.int .i64 s.len]:=by
 have:=bl (fun l=>l[0]?) h;simp only[b6,b7,dY]at this;rw[gI,bU,this];rfl
def bn {α:Type}{l:List α}{i:Nat}{s:α}{r:List α}(h:l.drop i=s::r):l.drop (i+1)=r:=by
 have:=bl (fun l=>l.drop 1) h;simpa [jC] using this
theorem bv {α:Type}{l:List α}{i:Nat}{s:α}{r:List α}(h:l.drop i=s::r):i<l.length:=by
 rcases bB i l.length with g | g
 .exact g
 .rw[cD g]at h;exact absurd h (by simp)
def ag7 (full:P_) (hl:full.length<=1000000) (x21:AV) (y22 y23:D):∀ (l:P_) (i:Nat) (lf c:Int) (N:Nat),full.drop i=l->fitsS lf l->0<=c->lf+c<=1000->
  (Dn prog).code (.loop xq) ⟨[(7,A_ (lf+c)),(21,x21),(22,.d y22),(23,.d y23),(27,.d (.lst (gI full))),(28,A_ full.length),(29,A_ i)],⟨[],N⟩⟩ =
  some (.exit 2,⟨[(21,x21),(22,.d y22),(23,.d y23)],⟨[],N+l.length⟩⟩):=by
 intro l
 induction l with
 | nil =>
  intro i lf c N h hf h0 h1;have hi:full.length<=i:=by simpa [List.drop_eq_nil_iff] using h
  rw[ah LU];simp (maxSteps:=300000) (disch:=omega) [↓ac,↓aa]
 | cons s r ih =>
  intro i lf c N h hf h0 h1;obtain⟨⟨⟨s1,s2⟩,s3,s4⟩,hf2⟩:=hf;have hg:=wZ h;have hlt:=bv h;have h5:=ih (i+1) (lf-s.len) c (N+1) (bn h) hf2 h0 o_;have c1:((i+1:Nat):Int)=(i:Int)+1:=rfl;have c2:lf-s.len+c=lf+c-s.len:=o_;rw[c1,c2]at h5;have e:N+(s::r).length=N+1+r.length:=by simp only[aq];omega
  rw[ah LU,e,<-h5];rcases s4 with s4 | s4
  .simp (maxSteps:=300000) (disch:=omega) [↓ac,↓aa,hg]
  .simp (maxSteps:=300000) (disch:=omega) [↓ac,↓aa,hg,s4]
def aaE:H_->Nat
 | []=>0
 | l::r=>l.length+aaE r
def kH {g:H_}{i:Nat}{l:P_}{r:H_}(h:g.drop i=l::r):(bD g)[i]?=some [.lst (gI l)]:=by
 have:=bl (fun l=>l[0]?) h;simp only[b6,b7,dY]at this;rw[bD,bU,this];rfl
def agc (full:H_) (hl:full.length<=1000) (m:Int) (hm:0<=m∧m<=40):∀ (g:H_) (i N:Nat),full.drop i=g->(∀ l∈g,fitsS m l∧l.length<=1000)->
  (Dn prog).code (.loop xu) ⟨[(21,.d (.lst (bD full))),(22,A_ full.length),(23,A_ i)],⟨[],N⟩⟩=some (.exit 0,⟨[],⟨[],N+aaE g⟩⟩):=by
 intro g
 induction g with
 | nil =>
  intro i N h hf;have hi:full.length<=i:=by simpa [List.drop_eq_nil_iff] using h
  rw[ah MR];simp (maxSteps:=300000) (disch:=omega) [↓ac,↓aa,aaE]
 | cons l r ih =>
  intro i N h hf;have hg:=kH h;have hlt:=bv h;obtain⟨f1,f2⟩:=hf l (.head _);have h0:=ag7 l o_ (.d (.lst (bD full))) (.int .i64 full.length) (.int .i64 i) l 0 m (40-m) N rfl f1 o_ o_;have h5:=ih (i+1) (N+l.length) (bn h) fun q hq=>hf q (.tail _ hq)
  have c1:((i+1:Nat):Int)=(i:Int)+1:=rfl;have c2:m+(40-m)=40:=o_;have c0:((0:Nat):Int)=0:=rfl;rw[c1]at h5;rw[c2,c0]at h0;have e:N+aaE (l::r)=N+l.length+aaE r:=by rw[aaE];omega
  rw[ah MR,e,<-h5];simp (maxSteps:=300000) (disch:=omega) [↓ac,↓aa,hg,h0]
def ab8 (gain m:Int) (g:H_) (hgn:0<=gain∧gain<=255) (hl:g.length<=8) (hm:0<=m∧m<=40) (hf:∀ l∈g,fitsS m l∧l.length<=1000) :
  br prog Uc [A_ gain,.d (.lst (bD g))]=some (B_ true):=by
 have h:=agc g o_ m hm g 0 0 rfl hf;have c0:((0:Nat):Int)=0:=rfl;rw[c0]at h;rw[aJ aih aik rfl];simp (maxSteps:=300000) (disch:=omega) [↓ac,↓aa,h]
abbrev fY:=@List.flatMap_nil
def KX:Int->P_->Option Int
 | lf,[]=>some lf
 | lf,s::r=>if s.right lf then KX (lf-s.len) r else none
theorem Wq {l:P_}{lf:Int}:KX lf l=some 0↔fitsS lf l:=by
 induction l generalizing lf<;>grind [KX,fitsS]
def aGb {l:P_}{lf v:Int}(h:KX lf l=some v) (h0:0<=lf):0<=v∧v<=lf:=by
 induction l generalizing lf<;>grind [KX]
def bb {α:Type}{l:List α}{i:Nat}(h:l.drop i=[]):l.length<=i:=u_
def adq (full:P_) (hl:full.length<=1000000) (X:Obj) (x26:AV) (y27 y28:D):∀ (r:P_) (i:Nat) (lf:Int) (N:Nat),full.drop i=r->0<=lf∧lf<=1000->1<=N->
  ∃ M,N<=M∧(Dn prog).code (.loop v8) ⟨[(2,.ptr 0 0),(9,A_ lf),(26,x26),(27,.d y27),(28,.d y28),(34,.d (.lst (gI full))),(35,A_ full.length),(36,A_ i)],⟨[(0,X)],N⟩⟩ =
  match KX lf r with
  | some v=>some (.exit 2,⟨[(2,.ptr 0 0),(9,A_ v),(26,x26),(27,.d y27),(28,.d y28)],⟨[(0,X)],M⟩⟩)
  | none=>some (.ret,⟨[(4,A_ 8)],⟨[(0,X)],M⟩⟩):=by
 intro r
 induction r with
 | nil =>
  intro i lf N h h0 hN;have hi:=bb h;refine⟨N,ai _,?_⟩;rw[ah Cw,KX];simp (disch:=omega) [↓aa]
 | cons s r ih =>
  intro i lf N h h0 hN;have hg:=wZ h;have hlt:=bv h;have h6:=fun k n left=>Xg ⟨k,n⟩ left
  by_cases hr:s.right lf
  .obtain⟨M,hM,e⟩:=ih (i+1) (lf-s.len) (N+1) (bn h) o_ o_;refine⟨M,o_,?_⟩;rw[ah Cw,KX,ac hr,<-e];simp (disch:=omega) [↓ac,↓aa,hg,h6]
  .refine⟨N+1,o_,?_⟩;rw[ah Cw,KX,aa hr];simp (disch:=omega) [↓ac,↓aa,hg,h6]
abbrev fq (m:Int) (g:H_):Prop:=∀ l∈g,fitsS m l
def adE (i:aL) (hi:i.Fit) (h0:0<=i.max∧i.max<=1000) (full:H_) (hl:full.length<=1000) (hl2:∀ l∈full,l.length<=1000):∀ (g:H_) (j:Nat) (N:Nat),full.drop j=g->1<=N->
  ∃ M,(Dn prog).code (.loop vF) ⟨[(2,.ptr 0 0),(26,.d (.lst (bD full))),(27,A_ full.length),(28,A_ j)],⟨[(0,.cells i.cells)],N⟩⟩ =
  if fq i.max g then some (.exit 0,⟨[],⟨[(0,.cells i.cells)],M⟩⟩) else some (.ret,⟨[(4,A_ 8)],⟨[(0,.cells i.cells)],M⟩⟩):=by
 simp only[aL.cells];intro g
 induction g with
 | nil =>
  intro j N h hN;have hi:=bb h;refine⟨N,?_⟩;rw[ah vW,ac (show fq i.max [] from fun _ h=>by simp at h)];simp (disch:=omega) [↓aa]
 | cons l r ih =>
  intro j N h hN;have hg:=kH h;have hlt:=bv h;have hll:l.length<=1000:=hl2 l (by rw[<-aT j full,h];simp);obtain⟨M,hM,e⟩:=adq l o_ (.cells i.cells) (.d (.lst (bD full))) (.int .i64 full.length) (.int .i64 j) l 0 i.max N rfl h0 hN;have c0:((0:Nat):Int)=0:=rfl;rw[c0]at e;simp only[aL.cells]at e
  cases hrm:KX i.max l with
  | none =>
   refine⟨M,?_⟩;rw[hrm]at e;have hn:¬ fq i.max (l::r):=fun h=>by
    grind [Wq]
   rw[ah vW,aa hn];simp (disch:=omega) [↓ac,hg,e]
  | some v =>
   rw[hrm]at e;by_cases h9:v=0
   .subst h9;obtain⟨M2,e2⟩:=ih (j+1) M (bn h) o_;refine⟨M2,?_⟩;have hf:=Wq.1 hrm;have hx:fq i.max (l::r)↔fq i.max r:=d_;rw[ah vW,atU hx,<-e2];simp (disch:=omega) [↓ac,hg,e]
   .refine⟨M,?_⟩;have hn:¬ fq i.max (l::r):=fun h=>by
     grind [Wq]
    rw[ah vW,aa hn];simp (disch:=omega) [↓ac,↓aa,hg,e]
abbrev asb (g:H_):Prop:=g.length<=1000∧∀ l∈g,l.length<=1000
abbrev jF (i:aL) (g:H_):Prop:=g.length=i.groups.length∧fq i.max g
def al4 (i:aL) (hi:i.Fit) (g:H_) (hf:asb g):br prog Rm [.agg i.cells,.d (.lst (bD g))]=if i.may 11 then if jF i g then some (A_ 0) else some (A_ 8) else some (A_ 8):=by
 have hw:=oi i hi;rw[aJ afz ag5 rfl];by_cases hm:i.may 11
 .rw[ac hm]at hw⊢;have h0:0<=i.max∧i.max<=1000:=by have:=hm.2.2.1;have:=hm.2.2.2.1;grind [Iu]
  obtain⟨M,e⟩:=adE i hi h0 g hf.1 hf.2 g 0 1 rfl o_;have c0:((0:Nat):Int)=0:=rfl;rw[c0]at e;simp only[aL.cells]at hw e;by_cases h1:g.length=i.groups.length
  .by_cases h2:fq i.max g
   .rw[ac ⟨h1,h2⟩];simp (disch:=omega) [↓ac,hw,e]
   .rw[aa (fun h=>h2 h.2)];rw[aa h2]at e;simp (disch:=omega) [↓ac,hw,e]
  .simp (disch:=omega) [↓ac,↓aa,hw]
 .simp only[aL.cells]at hw;simp (disch:=omega) [↓ac,↓aa,hw]
def ep (aW:Nat):Nat->Nat->C_
 | 0,n=>[n]
 | f+1,n=>if aW<=n then aW::ep aW f (n-aW) else [n]
def ai2 {σ:Type}{hp:σ->Int->ak}{l p q N:Nat}{st:σ->Nat->σ}{dk:Nat->σ->Prop}(hI:∀ k s x,dk (k+1) s->dk k (st s x)) (hM:∀ j k s,j<=k->dk k s->dk j s) (aW:Nat) (hm:1<=aW∧aW<=1000) (hg:∀ s n,get (hp s n) p=some (.cells [A_ n])) (hq:∀ s n,get (hp s n) q=some (.cells [A_ aW])) (hpt:∀ s n m,put (hp s n) p (.cells [A_ m])=hp s m)
  (hy:∀ (k:Nat) (s:σ) (x:Nat) (n:Int),dk (k+1) s->x<=aW->cf (Dn prog) (.yield l) [A_ (x:Int)] ⟨hp s n,N⟩=some (B_ true,⟨hp (st s x) n,N⟩)):∀ (f n:Nat) (s:σ),n<=f->n<=1000000->dk (f+1) s->
  ∃ (m:Nat) (s2:σ),m<aW∧dk 1 s2∧st s2 m=(ep aW f n).foldl st s∧(Dn prog).code (.loop qo) ⟨[(0,.yield l),(1,.ptr p 0),(2,.ptr q 0)],⟨hp s n,N⟩⟩=some (.exit 0,⟨[(0,.yield l),(1,.ptr p 0)],⟨hp s2 m,N⟩⟩):=by
 intro f
 induction f with
 | zero =>
  intro n s hn hb hi;refine⟨n,s,o_,hi,by rfl,?_⟩;rw[ah wl];simp (disch:=omega) [↓aa,hg,hq]
 | succ f ih =>
  intro n s hn hb hi;by_cases h1:aW<=n
  .obtain⟨m,s2,a1,a2,a3,a4⟩:=ih (n-aW) (st s aW) o_ o_ (hI _ _ _ hi);refine⟨m,s2,a1,a2,by grind [ep],?_⟩;have h2:=hy (f+1) s aW n hi o_;have c1:((n-aW:Nat):Int)=(n:Int)-aW:=o_;rw[c1]at a4;rw[ah wl,<-a4];simp (disch:=omega) [↓ac,hg,hq,hpt,-lW,h2]
  .refine⟨n,s,o_,?_,by grind [ep],?_⟩
   .grind
   .rw[ah wl];simp (disch:=omega) [↓aa,hg,hq]
def arR {σ:Type}{hp:σ->Int->ak}{l p q N:Nat}{st:σ->Nat->σ}{dk:Nat->σ->Prop}(hI:∀ k s x,dk (k+1) s->dk k (st s x)) (hM:∀ j k s,j<=k->dk k s->dk j s) (aW:Nat) (hm:1<=aW∧aW<=1000) (hg:∀ s n,get (hp s n) p=some (.cells [A_ n])) (hq:∀ s n,get (hp s n) q=some (.cells [A_ aW])) (hpt:∀ s n m,put (hp s n) p (.cells [A_ m])=hp s m)
  (hy:∀ (k:Nat) (s:σ) (x:Nat) (n:Int),dk (k+1) s->x<=aW->cf (Dn prog) (.yield l) [A_ (x:Int)] ⟨hp s n,N⟩=some (B_ true,⟨hp (st s x) n,N⟩)) (n:Nat) (s:σ) (hn:n<=1000000) (hi:dk (n+1) s) :
  ∃ m:Int,(Dn prog).call mD [.yield l,.ptr p 0,.ptr q 0] ⟨hp s n,N⟩=some (.tup [],⟨hp ((ep aW n n).foldl st s) m,N⟩):=by
 obtain⟨m,s2,a1,a2,a3,a4⟩:=ai2 hI hM aW hm hg hq hpt hy n n s (ai _) hn hi;have h2:=hy 0 s2 m m a2 o_;refine⟨m,?_⟩;rw[ba Xb Y0 rfl,<-a3];simp (disch:=omega) [a4,hg,-lW,h2]
def Ul {aW:Nat}(hm:1<=aW):∀ {f n:Nat},(ep aW f n).length<=n+1
 | 0,n=>by simp[ep]
 | f+1,n=>by
  rw[ep];split
  .have:=Ul hm (f:=f) (n:=n-aW)
   grind
  .simp
def aiD (n m:Int) (h:ak) (N:Nat):(Dn prog).call Pj [A_ n,A_ m] ⟨h,N⟩=some (.fn mD [] [.ptr N 0,.ptr (N+1) 0],⟨put (put h N (.cells [A_ n])) (N+1) (.cells [A_ m]),N+2⟩):=by
 rw[ba adQ adv rfl];simp (disch:=omega)
def KF (sz:Nat) (s:aU):C_:=ar s.book.toNat 4++(ep (2 ^ sz-1) s.len.toNat s.len.toNat).flatMap fun n=>ar n sz
def acn {sz:Nat}:∀ {l acc:C_},l.foldl (fun(s:C_) n=>s++ar n sz) acc=acc++l.flatMap fun n=>ar n sz
 | [],acc=>by simp
 | x::r,acc=>by rw[lc,acn];simp
abbrev J4:Obj:=.cells [.junk,.junk,.junk,.junk]
abbrev hpS (sz:Nat) (v:AV):ak:=[(0,.cells [v]),(1,J4),(2,.cells [A_ sz])]
abbrev hpF (sz aW N:Nat) (e:aV) (v:AV) (n:Int):ak:=[(0,.cells [v]),(1,J4),(2,.cells [A_ sz]),(N+1,.cells [A_ n]),(N+1+1,.cells [A_ aW]),(N+1+2,.loop e [55] zZ zY false none)]
abbrev aaR (aW:Nat) (y32 y33 y34:D) (full:P_) (i:Int) (r:aV):aV:=(3,.ptr 0 0)::(9,.ptr 2 0)::(10,A_ aW)::(32,.d y32)::(33,.d y33)::(34,.d y34)::(38,.d (.lst (gI full)))::(39,A_ full.length)::(40,A_ i)::r
def aDp (sz aW N:Nat) (hsz:1<=sz∧sz<=5) (hm:aW<2 ^ sz) (hN:3<=N) (y32 y33 y34:D) (full:P_) (i:Int) (b:C_) (x:Nat) (n:Int) (hx:x<=aW) (hb:b.length<=800000000) :
  cf (Dn prog) (.yield (N+1+2)) [A_ (x:Int)] ⟨hpF sz aW N (aaR aW y32 y33 y34 full i [(54,.fn mD [] [.ptr (N+1) 0,.ptr (N+1+1) 0])]) (.own false 1 (am b)) n,N+1+2+1⟩ =
  some (B_ true,⟨hpF sz aW N (aaR aW y32 y33 y34 full i [(54,.fn mD [] [.ptr (N+1) 0,.ptr (N+1+1) 0])]) (.own false 1 (am (b++ar x sz))) n,N+1+2+1⟩):=by
 have h5:2 ^ sz<=2 ^ 5:=aw o_ hsz.2;have h1:=mG b x sz o_ o_ _ (.inl rfl);rw[ac d_]at h1;simp (disch:=omega) [adL,adw,↓ac,↓aa,h1]
theorem ahY (sz aW:Nat) (hsz:1<=sz∧sz<=5) (hm:aW=2 ^ sz-1) (full r:P_) (hl:full.length<=1000) (s:aU) (y32 y33 y34:D) (i N:Nat) (b:C_) (hd:full.drop i=s::r) (hr:s.right 1000) (hN:3<=N) (hb:b.length<=700000000) :
  (Dn prog).code uK ⟨aaR aW y32 y33 y34 full i [],⟨hpS sz (.own false 1 (am b)),N⟩⟩ =
  some (.normal,⟨aaR aW y32 y33 y34 full ((i+1:Nat):Int) [],⟨hpS sz (.own false 1 (am (b++KF sz s))),N+4⟩⟩):=by
 have hg:=wZ hd;have hlt:=bv hd;have h5:2 ^ sz<=2 ^ 5:=aw o_ hsz.2;have h6:2 ^ 1<=2 ^ sz:=aw o_ hsz.1;have h1:=mG b s.book 4 o_ o_ _ (.inl rfl);have ho:rq s.book 4:=by
  grind
 obtain⟨L,hL⟩:=aB (show 0<=s.len by omega);obtain⟨m,h7⟩:=arR (hp:=fun b n=>hpF sz aW N (aaR aW y32 y33 y34 full i [(54,.fn mD [] [.ptr (N+1) 0,.ptr (N+1+1) 0])]) (.own false 1 (am b)) n) (l:=N+1+2) (p:=N+1) (q:=N+1+1) (N:=N+1+2+1) (st:=fun s n=>s++ar n sz) (dk:=fun k s=>s.length+5*k<=750000000)
  (fun k s x h=>by grind [dL]) (fun j k s h1 h2=>by omega) aW o_ (fun s n=>by simp (disch:=omega) [↓aa]) (fun s n=>by simp (disch:=omega) [↓aa]) (fun s n m=>by simp (disch:=omega) [↓aa])
  (fun k s x n h1 h2=>aDp sz aW N hsz o_ hN y32 y33 y34 full i s x n h2 o_) L (b++ar s.book.toNat 4) o_ (by simp;omega)
 rw[acn]at h7;have e:b++ar s.book.toNat 4++(ep aW L L).flatMap (fun n=>ar n sz)=b++KF sz s:=by
  grind [KF]
 rw[e]at h7;rw[hL]at hg;rw[PB];simp (disch:=omega) [↓ac,↓aa,hg,h1,aiD,rd,h7]
def aho {sz:Nat}(hsz:1<=sz∧sz<=5) {s:aU}(h:s.right 1000):(KF sz s).length<=6000:=by
 have h6:2 ^ 1<=2 ^ sz:=aw o_ hsz.1;have h1:=Ul (aW:=2 ^ sz-1) o_ (f:=s.len.toNat) (n:=s.len.toNat);rw[KF,al,dL,List.length_flatMap];have:((ep (2 ^ sz-1) s.len.toNat s.len.toNat).map fun n=>(ar n sz).length).sum<=(ep (2 ^ sz-1) s.len.toNat s.len.toNat).length*5:=by
  generalize ep (2 ^ sz-1) s.len.toNat s.len.toNat=l
  induction l<;>grind [dL]
 omega
def pJ (sz:Nat) (l:P_):C_:=l.flatMap (KF sz)
def tU {lf:Int}:∀ {l:P_},fitsS lf l->lf<=1000->∀ s∈l,s.right 1000
 | [],_,_,s,h=>absurd h (by simp)
 | x::r,hf,h0,s,h=>by
  obtain⟨h1,h2⟩:=hf;rcases az.1 h with e | e
  .grind
  .exact tU h2 o_ s e
def ajm (sz aW:Nat) (hsz:1<=sz∧sz<=5) (hm:aW=2 ^ sz-1) (full:P_) (hl:full.length<=1000) (y32 y33 y34:D):∀ (r:P_) (i N:Nat) (b:C_),full.drop i=r->(∀ s∈r,s.right 1000)->3<=N->b.length+6000*r.length<=700000000->
  ∃ M,3<=M∧(Dn prog).code (.loop uK) ⟨aaR aW y32 y33 y34 full i [],⟨hpS sz (.own false 1 (am b)),N⟩⟩ =
  some (.exit 2,⟨[(3,.ptr 0 0),(9,.ptr 2 0),(10,A_ aW),(32,.d y32),(33,.d y33),(34,.d y34)],⟨hpS sz (.own false 1 (am (b++pJ sz r))),M⟩⟩):=by
 intro r
 induction r with
 | nil =>
  intro i N b hd hr hN hb;have hi:=bb hd;refine⟨N,hN,?_⟩;rw[ah PB,pJ,fY,bg];simp (disch:=omega) [↓aa]
 | cons s r ih =>
  intro i N b hd hr hN hb;have hs:=hr s (.head _);have h1:=aho hsz hs;obtain⟨M,hM,e⟩:=ih (i+1) (N+4) (b++KF sz s) (bn hd) (fun q hq=>hr q (.tail _ hq)) o_ (by grind)
  grind [pJ,ah,ahY,Mx]
def NJ (i:aL) (g:H_):C_:=g.flatMap (pJ i.fsz)
def Sb {sz:Nat}(hsz:1<=sz∧sz<=5):∀ {l:P_},(∀ s∈l,s.right 1000)->(pJ sz l).length<=6000*l.length
 | [],_=>by simp[pJ]
 | s::r,h=>by
  have h1:=aho hsz (h s (.head _));have h2:=Sb hsz (l:=r) fun q hq=>h q (.tail _ hq)
  grind [pJ]
def ah8 (sz aW:Nat) (hsz:1<=sz∧sz<=5) (hm:aW=2 ^ sz-1) (m:Int) (hm0:m<=1000) (full:H_) (hl:full.length<=1000):∀ (g:H_) (i N:Nat) (b:C_),full.drop i=g->fq m g->(∀ l∈g,l.length<=100)->3<=N->b.length+600000*g.length<=700000000->
  ∃ M,(Dn prog).code (.loop zL) ⟨[(3,.ptr 0 0),(9,.ptr 2 0),(10,A_ aW),(32,.d (.lst (bD full))),(33,A_ full.length),(34,A_ i)],⟨hpS sz (.own false 1 (am b)),N⟩⟩ =
  some (.exit 0,⟨[(3,.ptr 0 0)],⟨hpS sz (.own false 1 (am (b++g.flatMap (pJ sz)))),M⟩⟩):=by
 intro g
 induction g with
 | nil =>
  intro i N b hd hf hll hN hb;have hi:=bb hd;refine⟨N,?_⟩;rw[ah PN,fY,bg];simp (disch:=omega) [↓aa]
 | cons l r ih =>
  intro i N b hd hf hll hN hb;simp only[aq]at hb;have hg:=kH hd;have hlt:=bv hd;have hlen:=hll l (.head _);have hr:=tU (hf l (.head _)) hm0;have h1:=Sb hsz hr;obtain⟨M,hM,e⟩:=ajm sz aW hsz hm l o_ (.lst (bD full)) (.int .i64 full.length) (.int .i64 i) l 0 N b rfl hr hN o_;obtain⟨M2,e2⟩:=ih (i+1) M (b++pJ sz l) (bn hd) (fun q hq=>hf q (.tail _ hq)) (fun q hq=>hll q (.tail _ hq)) hM d_;refine⟨M2,?_⟩;have c0:((0:Nat):Int)=0:=rfl;rw[c0]at e;have ea:b++(l::r).flatMap (pJ sz)=b++pJ sz l++r.flatMap (pJ sz):=u_;rw[ah PN,ea,<-e2];simp (disch:=omega) [↓ac,hg,e]
def Ih {lf:Int}:∀ {l:P_},fitsS lf l->(l.length:Int)<=lf∨l=[]
 | [],_=>.inr rfl
 | x::r,hf=>by
  obtain⟨h1,h2⟩:=hf;have:=Ih h2
  grind
def as0 (b:C_) (hb:b.length<=400000000) (x:AV) (hx:x=.d (.lst (am b))∨x=.nl∧b=[]) (i:aL) (hi:i.Fit) (hm:i.may 11) (g:H_) (hf:asb g) (hg:jF i g):br prog XX [x,.agg i.cells,.d (.lst (bD g))] =
  some (.tup [.own true 1 (am (b++NJ i g)),A_ 0]):=by
 have hc:=al4 i hi g hf;rw[ac hm,ac hg]at hc;have h0:0<=i.max∧i.max<=100:=by have:=hm.2.2.1;have:=hm.2.2.2.1;grind [Iu]
 have hfd:=YU i;have hsz:1<=i.fsz∧i.fsz<=5:=by grind [aL.fsz]
 have g8:g.length<=8:=by
  have h:=(dG hm).1;have h2:=(dG hm).2;have:=mE (fun n hn=>(h n hn).1)
  grind [aL.many]
 have hll:∀ l∈g,l.length<=100:=fun l hl=>by
  rcases Ih (hg.2 l hl) with h | h<;>grind
 have hp:=mG b 0 0 o_ o_ x hx;rw[ac k_]at hp;have t0:(0:Int).toNat=0:=rfl;rw[t0,ar,bg]at hp;obtain⟨M,e⟩:=ah8 i.fsz (2 ^ i.fsz-1) hsz rfl i.max o_ g hf.1 g 0 3 b rfl hg.2 hll o_ o_;have c0:((0:Nat):Int)=0:=rfl;rw[c0]at e;simp only[aL.cells]at hc hfd;rw[aJ alw amq rfl,NJ];rcases hx with rfl | ⟨rfl,rfl⟩
 all_goals simp (disch:=omega) [↓ac,↓aa,hc,hfd,hp,e]
def aK (l:P_):G_:=l.flatMap fun s=>List.replicate s.len.toNat s.book
def W7 {l:G_}{x:Int}:aF (l++[x])=aF l++[[.int .i64 x]]:=by simp[aF]
def iB {l:G_}:(aF l).length=l.length:=by simp[aF]
structure Tl {σ:Type}(hp:σ->ak->ak) (L:Nat):Prop where
 put:∀ s K o,L<=K->Go.Vm.put (hp s []) K o=hp s [(K,o)]
 put2:∀ s K o o',L<=K->Go.Vm.put (hp s [(K,o)]) K o'=hp s [(K,o')]
 get:∀ s K o,L<=K->Go.Vm.get (hp s [(K,o)]) K=some o
 del:∀ s K o,L<=K->Go.Vm.del (hp s [(K,o)]) K=hp s []
def u9 {σ τ:Type}(st:Nat->Int->σ->Sum σ τ):G_->Nat->σ->Sum σ τ
 | [],_,s=>.inl s
 | k::r,a,s=>match st a k s with
  | .inl s=>u9 st r (a+1) s
  | .inr z=>.inr z
def ahE {σ τ:Type}{st:Nat->Int->σ->Sum σ τ}:∀ {l r:G_}{a:Nat}{s:σ},u9 st (l++r) a s=match u9 st l a s with
  | .inl s=>u9 st r (a+l.length) s
  | .inr z=>.inr z
 | [],r,a,s=>rfl
 | k::l,r,a,s=>by
  rw[aQ,u9,u9]
  cases st a k s with
  | inl s=>simp only[ahE,aq];rw[show a+(l.length+1)=a+1+l.length by omega]
  | inr z=>rfl
section
variable {σ τ:Type}{hp:σ->ak->ak}{hq:τ->ak->ak}{L l p:Nat}{bks:G_}{st:Nat->Int->σ->Sum σ τ}{dk:Nat->σ->Prop}
def Rnd (hp:σ->ak->ak) (hq:τ->ak->ak) (L l:Nat) (bks:G_) (st:Nat->Int->σ->Sum σ τ) (dk:Nat->σ->Prop):Prop :=
 ∀ a k s K o N,bks[a]?=some k->dk a s->L<=K->K<N->
  (∃ s2,st a k s=.inl s2∧dk (a+1) s2∧cf (Dn prog) (.yield l) [A_ (a:Int),A_ k] ⟨hp s [(K,o)],N⟩=some (B_ true,⟨hp s2 [(K,o)],N⟩))∨
  (∃ z,st a k s=.inr z∧cf (Dn prog) (.yield l) [A_ (a:Int),A_ k] ⟨hp s [(K,o)],N⟩=some (B_ false,⟨hq z [(K,o)],N⟩))
def amE (H:Tl hp L) (H2:Tl hq L) (hY:Rnd hp hq L l bks st dk) (full:P_) (s0:aU) (hs0:s0.len<=1000) (i K N:Nat) (hK:L<=K) (hKN:K<N):∀ (k j a:Nat) (s:σ),j+k=s0.len.toNat->(∀ q,q<k->bks[a+q]?=some s0.book)->a+k<=100000000->dk a s->
  (∃ s2,u9 st (List.replicate k s0.book) a s=.inl s2∧dk (a+k) s2∧(Dn prog).code (.loop lX) ⟨[(0,.yield l),(3,A_ a),(5,.ptr K 0),(6,.d (.lst (gI full))),(7,A_ full.length),(8,A_ i),(13,A_ s0.len),(14,A_ j)],⟨hp s [(K,.cells [A_ s0.book,A_ s0.len])],N⟩⟩ =
   some (.exit 2,⟨[(0,.yield l),(3,A_ (a+k:Nat)),(6,.d (.lst (gI full))),(7,A_ full.length),(8,A_ i)],⟨hp s2 [],N⟩⟩))∨
  (∃ z,u9 st (List.replicate k s0.book) a s=.inr z∧(Dn prog).code (.loop lX) ⟨[(0,.yield l),(3,A_ a),(5,.ptr K 0),(6,.d (.lst (gI full))),(7,A_ full.length),(8,A_ i),(13,A_ s0.len),(14,A_ j)],⟨hp s [(K,.cells [A_ s0.book,A_ s0.len])],N⟩⟩ =
   some (.ret,⟨[],⟨hq z [],N⟩⟩)):=by
 have hG:=fun s o=>H.get s K o hK
 have hD:=fun s o=>H.del s K o hK
 have hD2:=fun s o=>H2.del s K o hK
 intro k
 induction k with
 | zero =>
  intro j a s h1 h2 h3 hi;refine .inl ⟨s,rfl,hi,?_⟩;rw[ah wB];simp (maxSteps:=300000) (disch:=omega) [↓aa,hD]
 | succ k ih =>
  intro j a s h1 h2 h3 hi;have hb:=h2 0 o_;rw[dY]at hb;have c1:((j+1:Nat):Int)=(j:Int)+1:=rfl;have c2:((a+1:Nat):Int)=(a:Int)+1:=rfl;rw[cy];rcases hY a s0.book s K (.cells [A_ s0.book,A_ s0.len]) N hb hi hK hKN with ⟨s2,e1,e2,e3⟩ | ⟨z,e1,e3⟩
  .rw[u9,e1,ah wB];have e4:a+(k+1)=a+1+k:=o_;have h9:=ih (j+1) (a+1) s2 o_ (fun q hq=>by rw[show a+1+q=a+(q+1) by omega];exact h2 (q+1) o_) o_ e2;rw[c1,c2]at h9;rw[e4];rcases h9 with ⟨s3,f1,f2,f3⟩ | ⟨z,f1,f3⟩
   .refine .inl ⟨s3,f1,f2,?_⟩;rw[<-f3];simp (maxSteps:=300000) (disch:=omega) [↓ac,↓aa,hG,-lW,e3]
   .refine .inr ⟨z,f1,?_⟩;rw[<-f3];simp (maxSteps:=300000) (disch:=omega) [↓ac,↓aa,hG,-lW,e3]
  .refine .inr ⟨z,by rw[u9,e1],?_⟩;rw[ah wB];simp (maxSteps:=300000) (disch:=omega) [↓ac,↓aa,hG,-lW,e3,hD2]
def alP (H:Tl hp L) (H2:Tl hq L) (hY:Rnd hp hq L l bks st dk) (full:P_) (hfl:full.length<=1000):∀ (r:P_) (i a N:Nat) (s:σ),full.drop i=r->(∀ q∈r,0<=q.len∧q.len<=1000)->bks.drop a=aK r->a<=1000*i->L<=N->dk a s->
  (∃ s2 M,u9 st (aK r) a s=.inl s2∧dk (a+(aK r).length) s2∧N<=M∧(Dn prog).code (.loop mh) ⟨[(0,.yield l),(3,A_ a),(6,.d (.lst (gI full))),(7,A_ full.length),(8,A_ i)],⟨hp s [],N⟩⟩ =
   some (.exit 0,⟨[],⟨hp s2 [],M⟩⟩))∨
  (∃ z M,u9 st (aK r) a s=.inr z∧N<=M∧(Dn prog).code (.loop mh) ⟨[(0,.yield l),(3,A_ a),(6,.d (.lst (gI full))),(7,A_ full.length),(8,A_ i)],⟨hp s [],N⟩⟩ =
   some (.ret,⟨[],⟨hq z [],M⟩⟩)):=by
 intro r
 induction r with
 | nil =>
  intro i a N s hd hr hb ha hL hi;have hk:=bb hd;refine .inl ⟨s,N,rfl,hi,ai _,?_⟩;rw[ah p9];simp (maxSteps:=300000) (disch:=omega) [↓aa]
 | cons q r ih =>
  intro i a N s hd hr hb ha hL hi;have hq:=hr q (.head _);have hlt:=bv hd;have hg:=wZ hd;have eb:aK (q::r)=List.replicate q.len.toNat q.book++aK r:=by rw[aK,aH];rfl
  rw[eb]at hb;have hbk:∀ j,j<q.len.toNat->bks[a+j]?=some q.book:=fun j hj=>by
   have:=bl (fun l=>l[j]?) hb;simp only[b6]at this;rw[this,b9 (by simpa using hj)];simp[hj]
  have hb2:bks.drop (a+q.len.toNat)=aK r:=by
   have:=bl (fun l=>l.drop q.len.toNat) hb;simp only[jC]at this;rw[this,List.drop_left' s_]
  have hp1:=fun o=>H.put s N o hL
  have hp2:=fun o o'=>H.put2 s N o o' hL
  have hG:=fun o=>H.get s N o hL
  have c1:((i+1:Nat):Int)=(i:Int)+1:=rfl;have c0:((0:Nat):Int)=0:=rfl;have h0:=amE H H2 hY full q hq.2 i N (N+1) hL o_ q.len.toNat 0 a s o_ hbk o_ hi;rw[c0]at h0;rw[eb,ahE];rcases h0 with ⟨s2,e1,e2,e3⟩ | ⟨z,e1,e3⟩
  .have h9:=ih (i+1) (a+q.len.toNat) (N+1) s2 (bn hd) (fun x hx=>hr x (.tail _ hx)) hb2 o_ o_ e2;rw[c1]at h9;rw[e1];simp only[al,bi];rcases h9 with ⟨s3,M,f1,f2,f3,f4⟩ | ⟨z,M,f1,f3,f4⟩
   .refine .inl ⟨s3,M,f1,by rw[<-dy];exact f2,o_,?_⟩;rw[ah p9,<-f4];simp (maxSteps:=300000) (disch:=omega) [↓ac,↓aa,hg,hp1,hp2,hG,e3]
   .refine .inr ⟨z,M,f1,o_,?_⟩;rw[ah p9,<-f4];simp (maxSteps:=300000) (disch:=omega) [↓ac,↓aa,hg,hp1,hp2,hG,e3]
  .rw[e1];refine .inr ⟨z,N+1,rfl,o_,?_⟩;rw[ah p9];simp (maxSteps:=300000) (disch:=omega) [↓ac,↓aa,hg,hp1,hp2,hG,e3]
def aa9 (H:Tl hp L) (H2:Tl hq L) (full:P_) (hY:Rnd hp hq L l (aK full) st dk) (hgp:∀ s,get (hp s []) p=some (.cells [.d (.lst (gI full))])) (hfl:full.length<=1000) (hr:∀ q∈full,0<=q.len∧q.len<=1000) (N:Nat) (s:σ) (hN:L<=N) (hi:dk 0 s) :
  (∃ s2 M,u9 st (aK full) 0 s=.inl s2∧dk (aK full).length s2∧N<=M∧(Dn prog).call i9 [.yield l,.ptr p 0] ⟨hp s [],N⟩=some (.tup [],⟨hp s2 [],M⟩))∨
  (∃ z M,u9 st (aK full) 0 s=.inr z∧N<=M∧(Dn prog).call i9 [.yield l,.ptr p 0] ⟨hp s [],N⟩=some (.tup [],⟨hq z [],M⟩)):=by
 have h:=alP H H2 hY full hfl full 0 0 N s rfl hr rfl o_ hN hi;have c0:((0:Nat):Int)=0:=rfl;rw[c0,bz]at h;rw[ba YL Xi rfl];rcases h with ⟨s2,M,e1,e2,e3,e4⟩ | ⟨z,M,e1,e3,e4⟩
 .refine .inl ⟨s2,M,e1,e2,e3,?_⟩;simp (maxSteps:=300000) (disch:=omega) [hgp,e4]
 .refine .inr ⟨z,M,e1,e3,?_⟩;simp (maxSteps:=300000) (disch:=omega) [hgp,e4]
end
def KR (x:D) (h:ak) (N:Nat):(Dn prog).call GC [.d x] ⟨h,N⟩=some (.fn i9 [] [.ptr N 0],⟨put h N (.cells [.d x]),N+1⟩):=by
 rw[ba adf adt rfl];simp (maxSteps:=300000) (disch:=omega)
abbrev aI:=@List.getElem?_eq_some_iff
def cS (t:J_):E_:=t.map fun l=>[.lst (aF l)]
@[simp] def apE {t:J_}:(cS t).length=t.length:=by simp[cS]
def E3 {g:J_}{i:Nat}{l:G_}{r:J_}(h:g.drop i=l::r):(cS g)[i]?=some [.lst (aF l)]:=by
 grind [List.getElem?_cons_zero,cS]
def xC {l:G_}{i:Nat}{k:Int}{r:G_}(h:l.drop i=k::r):(aF l)[i]?=some [.int .i64 k]:=by
 grind [List.getElem?_cons_zero,aF]
def dJ:G_->G_->Int->Int->Option (Int×Int)
 | [],[],w,z=>some (w,z)
 | k::r,n::t,w,z=>if k=0 then (if n=0 then dJ r t w z else none) else if lO k n w z then (if k=13 then dJ r t w n else dJ r t n z) else none
 | _,_,_,_=>none
def mC:H_->J_->Int->Int->Option (Int×Int)
 | [],[],w,z=>some (w,z)
 | l::r,t::s,w,z=>match dJ (aK l) t w z with
  | some (w,z)=>mC r s w z
  | none=>none
 | _,_,_,_=>none
abbrev A8 (gain:Int) (g:H_) (t:J_):Prop:=mC g t gain (-1)≠none
theorem JP:∀ {g:H_}{t:J_}{w z:Int},mC g t w z≠none->g.length=t.length
 | [],[],_,_,_=>rfl
 | [],_::_,_,_,h=>absurd rfl h
 | _::_,[],_,_,h=>absurd rfl h
 | l::r,t::s,w,z,h=>by
  rw[mC]at h;split at h
  .simp only[aq,JP h]
  simp_all
abbrev um (w:Int):Prop:=-1<=w∧w<=511
def Sg {k n w z:Int}(h:lO k n w z):um n:=by
 grind
def jY (k n w z:Int):Int×Int:=if k=0 then (w,z) else if k=13 then (w,n) else (n,z)
def pY {k n:Int}{r t:G_}{w z:Int}(h:dJ (k::r) (n::t) w z≠none):(k=0->n=0)∧(k≠0->lO k n w z)∧dJ (k::r) (n::t) w z=dJ r t (jY k n w z).1 (jY k n w z).2:=by
 grind [dJ,jY]
def acd {bks t:G_}{a:Nat}{k:Int}{w z:Int}(hk:bks[a]?=some k) (h:dJ (bks.drop a) (t.drop a) w z≠none):∃ n,t.drop a=n::t.drop (a+1)∧(k=0->n=0)∧(k≠0->lO k n w z)∧dJ (bks.drop a) (t.drop a) w z=dJ (bks.drop (a+1)) (t.drop (a+1)) (jY k n w z).1 (jY k n w z).2:=by
 obtain⟨hlt,e⟩:=aI.1 hk;have h1:=ee hlt;rw[e]at h1;rw[h1]at h⊢
 cases h2:t.drop a with
 | nil=>rw[h2]at h;exact absurd rfl h
 | cons n r =>
  have h3:t.drop (a+1)=r:=bn h2;rw[h2]at h;obtain⟨a1,a2,a3⟩:=pY h
  simp_all
abbrev hpK (ss:J_) (g N:Nat) (l:P_) (e:aV) (s:Nat×Int×Int) (T:ak):ak :=
 (0,.cells [.d (.lst (cS ss))])::(1,.cells [A_ 0])::(2,.cells [A_ s.2.1,A_ s.2.2])::(3,.cells [.ptr 2 0])::(N,.cells [A_ g])::(N+1,.cells [A_ s.1])::(N+1+1,.cells [.d (.lst (gI l))])::(N+1+1+1,.loop e [36,37] lm lG false none)::T
abbrev am0 (gs:H_) (g N:Nat):aV:=[(5,.ptr 0 0),(6,.ptr 1 0),(7,.ptr 3 0),(8,.ptr N 0),(10,.ptr (N+1) 0),(27,.d (.lst (bD gs))),(28,A_ gs.length),(29,A_ g),(35,.fn i9 [] [.ptr (N+1+1) 0])]
def aCS {ss:J_}{g N:Nat}{l:P_}{e:aV}(hN:4<=N):Tl (hpK ss g N l e) (N+1+1+1+1):=by
 constructor
 .intro s K o h;simp (disch:=omega) [↓aa]
 .intro s K o o' h;simp (disch:=omega) [↓aa]
 .intro s K o h;simp (disch:=omega) [↓aa]
 .intro s K o h;simp (disch:=omega) [↓aa]
def noH (z:Empty) (_:ak):ak:=nomatch z
def amw {L:Nat}:Tl noH L:=by constructor<;>(grind)
structure LK (F:Obj->Int->Int->Int->ak) (ss:J_) (g:Int) (L N:Nat):Prop where
 gl:∀ q m w z,get (F q m w z) L=some q
 pl:∀ q m w z q',put (F q m w z) L q'=F q' m w z
 g0:∀ q m w z,get (F q m w z) 0=some (.cells [.d (.lst (cS ss))])
 g2:∀ q m w z,get (F q m w z) 2=some (.cells [A_ w,A_ z])
 p2:∀ q m w z w' z',put (F q m w z) 2 (.cells [A_ w',A_ z'])=F q m w' z'
 g3:∀ q m w z,get (F q m w z) 3=some (.cells [.ptr 2 0])
 gN:∀ q m w z,get (F q m w z) N=some (.cells [A_ g])
 gM:∀ q m w z,get (F q m w z) (N+1)=some (.cells [A_ m])
 pM:∀ q m w z m',put (F q m w z) (N+1) (.cells [A_ m'])=F q m' w z
def aAA {F:Obj->Int->Int->Int->ak}{L:Nat}(ss:J_) (hss:ss.length<=1000) (gs:H_) (hgs:gs.length<=1000) (g N:Nat) (H:LK F ss g L N) (t:G_) (ht:t.length<=100000) (hg:(cS ss)[g]?=some [.lst (aF t)]) (a:Nat) (k:Int) (w z:Int) (M:Nat) (n:Int) (r:G_) (hd:t.drop a=n::r) (h0:k=0->n=0) (h1:k≠0->lO k n w z) (hk:0<=k∧k<=13) (hw:um w) (hz:um z) :
  cf (Dn prog) (.yield L) [A_ (a:Int),A_ k] ⟨F (.loop (am0 gs g N) [36,37] lm lG false none) a w z,M⟩=some (B_ true,⟨F (.loop (am0 gs g N) [36,37] lm lG false none) (a+1) (jY k n w z).1 (jY k n w z).2,M⟩):=by
 have ha:=bv hd;have hn:=xC hd;have gl:g<ss.length:=by
  obtain⟨h,_⟩:=aI.1 hg;simpa using h
 have T:=fun q m=>Nk (hp:=fun w z=>F q m w z) (A:=2) ⟨fun s z=>H.g2 q m s z,fun s z s' z'=>H.p2 q m s z s' z'⟩ k n w z M
 by_cases k0:k=0
 .have:=h0 k0;subst k0 this;simp (disch:=omega) [z8,Af,↓ac,↓aa,hg,hn,H.gl,H.pl,H.g0,H.gN,H.gM,H.pM,jY]
 .have hT:=h1 k0;have hn5:=Sg hT;have T:=fun q m=>T q m o_ o_ (by omega)
  simp only[ac hT]at T;have e:(jY k n w z)=if k=13 then (w,n) else (n,z):=by rw[jY,aa k0]
  by_cases k13:k=13
  .rw[e,ac k13];simp (disch:=omega) [z8,Af,↓ac,↓aa,hg,hn,H.gl,H.pl,H.g0,H.g3,H.gN,H.gM,H.pM,T]
  .rw[e,aa k13];simp (disch:=omega) [z8,Af,↓ac,↓aa,hg,hn,H.gl,H.pl,H.g0,H.g3,H.gN,H.gM,H.pM,T]
abbrev FK (ss:J_) (g N:Nat) (l:P_) (T:ak) (q:Obj) (m w z:Int):ak :=
 (0,.cells [.d (.lst (cS ss))])::(1,.cells [A_ 0])::(2,.cells [A_ w,A_ z])::(3,.cells [.ptr 2 0])::(N,.cells [A_ g])::(N+1,.cells [A_ m])::(N+1+1,.cells [.d (.lst (gI l))])::(N+1+1+1,q)::T
def azI {ss:J_}{g N:Nat}{l:P_}{T:ak}(hN:4<=N):LK (FK ss g N l T) ss g (N+1+1+1) N:=by
 constructor<;>intro q m w z<;>(try intro q')<;>(try intro q'')<;>simp (disch:=omega) [↓aa]
def aAr (ss:J_) (hss:ss.length<=1000) (gs:H_) (hgs:gs.length<=1000) (g N:Nat) (hN:4<=N) (t:G_) (ht:t.length<=100000) (hg:(cS ss)[g]?=some [.lst (aF t)]) (l:P_) (hl:∀ k∈aK l,0<=k∧k<=13) (fin:Int×Int) :
  Rnd (hpK ss g N l (am0 gs g N)) noH (N+1+1+1+1) (N+1+1+1) (aK l) (fun a k s=>.inl (a+1,jY k (nth t a) s.2.1 s.2.2)) (fun a s=>s.1=a∧um s.2.1∧um s.2.2∧dJ ((aK l).drop a) (t.drop a) s.2.1 s.2.2=some fin):=by
 intro a k s K o M hk hi hK hM;obtain⟨i1,i2,i3,i4⟩:=hi;obtain⟨n,d1,d2,d3,d4⟩:=acd hk (by rw[i4];simp);have hn:nth t a=n:=by
  grind [bv,qA]
 have hkm:=hl k d_;rw[i4]at d4;have hgo:um (jY k n s.2.1 s.2.2).1∧um (jY k n s.2.1 s.2.2).2:=by
  grind [jY]
 refine .inl ⟨(a+1,jY k n s.2.1 s.2.2),u_,⟨rfl,hgo.1,hgo.2,d4.symm⟩,?_⟩;obtain⟨m,w,z⟩:=s;subst i1;have:=aAA ss hss gs hgs g N (azI (ss:=ss) (g:=g) (l:=l) (T:=[(K,o)]) hN) t ht hg m k w z M n _ d1 d2 d3 hkm i2 i3;exact this
def O9 {l:P_}{lf:Int}(h:fitsS lf l):∀ k∈aK l,0<=k∧k<=13:=by
 induction l generalizing lf with
 | nil=>grind [aK]
 | cons s r ih =>
  intro k hk;obtain⟨h1,h2⟩:=h
  grind [aK]
abbrev aDt (ss:J_) (w z:Int):ak:=[(0,.cells [.d (.lst (cS ss))]),(1,.cells [A_ 0]),(2,.cells [A_ w,A_ z]),(3,.cells [.ptr 2 0])]
def ae2 {t:G_}{a:Nat}{w z:Int}{fin:Int×Int}(h:dJ [] (t.drop a) w z=some fin):(w,z)=fin∧t.length<=a:=by
 cases h1:t.drop a<;>simp_all [dJ]
theorem WI:∀ {bks t:G_}{w z:Int}{fin:Int×Int},dJ bks t w z=some fin->bks.length=t.length
 | [],[],_,_,_,_=>rfl
 | [],_::_,_,_,_,h=>absurd h (by simp[dJ])
 | _::_,[],_,_,_,h=>absurd h (by simp[dJ])
 | k::r,n::t,w,z,fin,h=>by
  have h1:=pY (by rw[h];simp);rw[h]at h1;have:=WI h1.2.2.symm
  simp_all
def aax (ss:J_) (hss:ss.length<=1000) (hss2:∀ t∈ss,t.length<=100000) (gs:H_) (hgs:gs.length<=1000) (m:Int) (hm:m<=1000):∀ (gr:H_) (sr:J_) (i N:Nat) (w z:Int),gs.drop i=gr->ss.drop i=sr->fq m gr->(∀ l∈gr,l.length<=1000)->um w->um z->mC gr sr w z≠none->4<=N->
  ∃ M w' z',(Dn prog).code (.loop ug) ⟨[(5,.ptr 0 0),(6,.ptr 1 0),(7,.ptr 3 0),(27,.d (.lst (bD gs))),(28,A_ gs.length),(29,A_ i)],⟨aDt ss w z,N⟩⟩ =
  some (.exit 0,⟨[(6,.ptr 1 0)],⟨[(1,.cells [A_ 0]),(2,.cells [A_ w',A_ z'])],M⟩⟩):=by
 intro gr
 induction gr with
 | nil =>
  intro sr i N w z hd hd2 hf hl hw hz hr hN;have hi:=bb hd;refine⟨N,w,z,?_⟩;rw[ah IF];simp (disch:=omega) [↓ac,↓aa]
 | cons l r ih =>
  intro sr i N w z hd hd2 hf hl hw hz hr hN;have hg:=kH hd;have hlt:=bv hd;have hfl:=hf l (.head _);have hll:=hl l (.head _)
  cases sr with
  | nil=>exact absurd rfl hr
  | cons t s =>
   have hgt:=E3 hd2;have htl:=hss2 t (by rw[<-aT i ss,hd2];simp);have hlt2:=bv hd2;rw[mC]at hr
   cases hrow:dJ (aK l) t w z with
   | none=>simp_all
   | some fin =>
    rw[hrow]at hr;have hlen:=WI hrow;have hb:=aa9 (p:=N+1+1) (aCS (ss:=ss) (g:=i) (l:=l) (e:=am0 gs i N) hN) amw l (aAr ss hss gs hgs i N hN t htl hgt l (O9 hfl) fin) (fun s=>by simp (disch:=omega) [↓aa]) hll (fun q hq=>by have:=(tU hfl hm q hq).1;omega) (N+1+1+1+1) (0,w,z) (ai _) ⟨rfl,hw,hz,u_⟩;rcases hb with ⟨⟨m2,w2,z2⟩,M,e1,⟨e2,e3,e4,e5⟩,e6,e7⟩ | ⟨z,_⟩
    .rw[cD (ai _)]at e5;obtain⟨e8,e9⟩:=ae2 e5;subst e8;obtain⟨M2,w3,z3,f⟩:=ih s (i+1) M w2 z2 (bn hd) (bn hd2) (fun q hq=>hf q (.tail _ hq)) (fun q hq=>hl q (.tail _ hq)) e3 e4 hr o_;refine⟨M2,w3,z3,?_⟩;have c0:((0:Nat):Int)=0:=rfl;simp only[hpK,c0]at e7;rw[ah IF,<-f];simp (disch:=omega) [↓ac,↓aa,hg,hgt,KR,rd,e7]
    grind
def aje (gain m:Int) (g:H_) (t:J_) (hgn:0<=gain∧gain<=255) (hl:g.length<=8) (hm:0<=m∧m<=40) (hf:fq m g) (hf2:∀ l∈g,l.length<=1000) (ht:A8 gain g t) (ht2:∀ l∈t,l.length<=100000) :
  br prog PZ [A_ gain,.d (.lst (bD g)),.d (.lst (cS t))]=some (A_ 0):=by
 have h1:=ab8 gain m g hgn hl hm fun l h=>⟨hf l h,hf2 l h⟩
 have hlen:=JP ht;obtain⟨M,w,z,e⟩:=aax t o_ ht2 g o_ m o_ g t 0 4 gain (-1) rfl rfl hf hf2 o_ o_ ht (ai _);have c0:((0:Nat):Int)=0:=rfl;rw[c0]at e;rw[aJ ad8 adY rfl];simp (disch:=omega) [↓ac,↓aa,h1,e]
abbrev c7:=@List.exists_cons_of_ne_nil
def Bs (xs:AD_):E_:=xs.map fun l=>[.lst (am l)]
@[simp] def aBs {t:AD_}:(Bs t).length=t.length:=by simp[Bs]
def Sr {g:AD_}{i:Nat}{l:C_}{r:AD_}(h:g.drop i=l::r):(Bs g)[i]?=some [.lst (am l)]:=by
 have:=bl (fun l=>l[0]?) h;simp only[b6,b7,dY]at this;rw[Bs,bU,this];rfl
def cT {l:C_}:(am l).length=l.length:=by simp[am]
def aps (xs:AD_) (hx:xs.length<=1000) (h:ak) (N:Nat):∀ (r:AD_) (i:Nat) (n:Nat),xs.drop i=r->n+r.flatten.length<=1000000000->
  (Dn prog).code (.loop j9) ⟨[(0,.d (.lst (Bs xs))),(3,A_ n),(9,.d (.lst (Bs xs))),(10,A_ xs.length),(11,A_ i)],⟨h,N⟩⟩ =
  some (.exit 0,⟨[(0,.d (.lst (Bs xs))),(3,A_ (n+r.flatten.length:Nat))],⟨h,N⟩⟩):=by
 intro r
 induction r with
 | nil =>
  intro i n hd hn;have hi:=bb hd;rw[ah wI];simp (maxSteps:=300000) (disch:=omega) [↓aa]
 | cons l r ih =>
  intro i n hd hn;have hg:=Sr hd;have hlt:=bv hd;simp only[dq,al]at hn⊢;have h5:=ih (i+1) (n+l.length) (bn hd) o_;have c1:((i+1:Nat):Int)=(i:Int)+1:=rfl;have c2:((n+l.length:Nat):Int)=(n:Int)+l.length:=rfl;rw[c1,c2,dy]at h5;rw[ah wI,<-h5];simp (maxSteps:=300000) (disch:=omega) [↓ac,↓aa,hg,cT]
def aoT (xs:AD_) (hx:xs.length<=1000) (h:ak) (N:Nat):∀ (r:AD_) (i:Nat) (acc:C_),xs.drop i=r->acc.length+r.flatten.length<=1000000000->
  (Dn prog).code (.loop kl) ⟨[(6,.own false 1 (am acc)),(25,.d (.lst (Bs xs))),(26,A_ xs.length),(27,A_ i)],⟨h,N⟩⟩ =
  some (.exit 2,⟨[(6,.own false 1 (am (acc++r.flatten)))],⟨h,N⟩⟩):=by
 intro r
 induction r with
 | nil =>
  intro i acc hd hn;have hi:=bb hd;rw[ah oc];simp (maxSteps:=300000) (disch:=omega) [↓aa]
 | cons l r ih =>
  intro i acc hd hn;have hg:=Sr hd;have hlt:=bv hd;simp only[dq,al]at hn⊢;have h5:=ih (i+1) (acc++l) (bn hd) (by simp only[al];omega);have c1:((i+1:Nat):Int)=(i:Int)+1:=rfl;rw[c1,aA]at h5;rw[ah oc,<-h5];simp (maxSteps:=300000) (disch:=omega) [↓ac,↓aa,hg,cT]
def awJ (n:Nat) (hn:0<n∧n<=1000000000):(Dn prog).call Db [.nl,A_ n] ⟨[],0⟩=some (.sl 0 0 0,⟨[(0,.arr 1 (List.replicate n [.int .u8 0]))],1⟩):=by
 have e1:ef (A_ n) aW=some n:=by rw[zG o_ (by simp only[aW];omega)];simp
 have e2:Hi [.int .u8 0] [] .nl (A_ n)=some (.own true 1 (List.replicate n [.int .u8 0]),[]):=by
  unfold Hi;rw[e1];obtain⟨m,rfl⟩:∃ m,n=m+1:=⟨n-1,o_⟩
  simp (disch:=omega) [cy,↓ac]
 have e0:ef (A_ 0) n=some 0:=zG o_ o_;have e3:tG [] 1 .nl none (some (.int .i64 0)) none=some .nl:=rfl;have e4:tG [(0,.arr 1 (List.replicate n [D.int .u8 0]))] 1 (.sl 0 0 n) none (some (.int .i64 0)) none=some (.sl 0 0 0):=by
  simp[tG,okSl,xB,lenOf,yS,e0,xx]
 rw[ba Qb Qh rfl];simp (maxSteps:=300000) (disch:=omega) [↓ac,↓aa,aa2,e2,e3,e4]
def afG (xs:AD_) (hx:xs.length<=1000) (hn:0<xs.flatten.length∧xs.flatten.length<=1000000000):br prog AJ [.d (.lst (Bs xs))]=some (.own true 1 (am xs.flatten)):=by
 have h0:=aps xs hx [] 0 xs 0 0 rfl o_;have h2:=awJ xs.flatten.length hn;have c0:((0:Nat):Int)=0:=rfl;rw[bz,c0]at h0;have hne:xs≠[]:=by intro h;subst h;simp at hn
 obtain⟨l,r,e⟩:=c7 hne;have h1:=aoT xs hx [] 1 r 1 l (by rw[e];rfl) (by rw[e]at hn;simpa using hn.2);have hg:=Sr (g:=xs) (i:=0) (l:=l) (r:=r) (by rw[e];rfl);have hlt:0<xs.length:=bJ.2 hne;have e5:l++r.flatten=xs.flatten:=by rw[e];rfl
 rw[e5]at h1;have hll:l.length<=1000000000:=by rw[<-e5,al]at hn;omega
 clear e5 e;generalize xs.flatten=F at *;have c1:((1:Nat):Int)=1:=rfl;rw[c1]at h1;rw[aJ ME M4 rfl];simp (maxSteps:=300000) (disch:=omega) [↓ac,↓aa,h0,h2];rw[ah oc];simp (maxSteps:=300000) (disch:=omega) [↓ac,↓aa,hg,cT,h1]
def cG (n:Nat):Nat:=if n=0 then 0 else n.log2+1
def Hz {n:Nat}:n<2 ^ cG n:=by
 unfold cG;by_cases h:n=0
 .subst h;decide
 .rw[aa h];exact(Nat.log2_lt h).1 (Nat.lt_succ_self _)
def uS {n:Nat}(h:n≠0):2 ^ (cG n-1)<=n:=by
 unfold cG;rw[aa h,dh];exact(Nat.le_log2 h).1 (ai _)
def apv {n k:Nat}(h1:2 ^ k<=n) (h2:n<2 ^ (k+1)):cG n=k+1:=by
 have h0:n≠0:=by have:=bO k;omega
 unfold cG;rw[aa h0];have a:=(Nat.le_log2 h0).2 h1;have b:=(Nat.log2_lt h0).2 h2;omega
def aqW {n:Nat}(h:256<=n):cG n=8+cG (n / 256):=by
 have h0:n / 256≠0:=o_;obtain⟨k,hk⟩:∃ k,cG (n / 256)=k+1:=⟨cG (n / 256)-1,by unfold cG;rw[aa h0];omega⟩
 have a:=Hz (n:=n / 256);have b:=uS h0;rw[hk]at a b⊢;rw[dh]at b;rw[apv (k:=k+8)]
 .omega
 .rw[Nat.pow_add];omega
 .rw[show k+8+1=k+1+8 by omega,Nat.pow_add];omega
def abn:BC_:=[0,1,2,2,3,3,3,3,4,4,4,4,4,4,4,4,5,5,5,5,5,5,5,5,5,5,5,5,5,5,5,5,6,6,6,6,6,6,6,6,6,6,6,6,6,6,6,6,6,6,6,6,6,6,6,6,6,6,6,6,6,6,6,6,7,7,7,7,7,7,7,7,7,7,7,7,7,7,7,7,7,7,7,7,7,7,7,7,7,7,7,7,7,7,7,7,7,7,7,7,7,7,7,7,7,7,7,7,7,7,7,7,7,7,7,7,7,7,7,7,7,7,7,7,7,7,7,7,8,8,8,8,8,8,8,8,8,8,8,8,8,8,8,8,8,8,8,8,8,8,8,8,8,8,8,8,8,8,8,8,8,8,8,8,8,8,8,8,8,8,8,8,8,8,8,8,8,8,8,8,8,8,8,8,8,8,8,8,8,8,8,8,8,8,8,8,8,8,8,8,8,8,8,8,8,8,8,8,8,8,8,8,8,8,8,8,8,8,8,8,8,8,8,8,8,8,8,8,8,8,8,8,8,8,8,8,8,8,8,8,8,8,8,8,8,8,8,8,8,8,8,8,8,8,8,8]
def arN:∀ n,n<256->(abn[n]?).map UInt8.toNat=some (cG n):=e_
def akW {n:Nat}(h:n<256):ank (.d (.str abn)) (.d (.int .u8 n))=some (.int .u8 (cG n)):=by
 have:=arN n h;show (match abn[n]? with | some b=>some (D.int .u8 (.ofNat b.toNat)) | none=>none)=_
 cases hx:abn[n]? with
 | none=>rw[hx]at this;exact absurd this (by simp)
 | some b =>
  rw[hx]at this;injection this with this
  show some (D.int .u8 ((b.toNat:Nat):Int))=_;rw[this]
def aDa {n:Nat}:fo .shr (.d (.int .u64 (n:Int))) (.d (.int .u64 8))=some (.int .u64 ((n / 256:Nat):Int)):=by
 rw[lh o_];have:min ((8:Int)).toNat IntKind.u64.bits=8:=rfl;rw[this,j5 _ (qy _),<-Int.natCast_ediv]
def afk (n:Nat) (hn:n<65536):br prog JL [.d (.int .u64 n)]=some (A_ (cG n)):=by
 have h64:br prog GS [.d (.int .u64 n)]=some (A_ (cG n)):=by
  rw[aJ T2 TN rfl];by_cases h:256<=n
  .have h2:=akW (n:=n / 256) o_;have h3:=aqW h;have h4:cG (n / 256)<=8:=by
    have a:=uS (n:=n / 256) o_;rcases bB 8 (cG (n / 256)) with h | h
    .have:2 ^ 8<=2 ^ (cG (n / 256)-1):=aw o_ o_;omega
    .exact h
   have c1:((n / 256:Nat):Int)=(n:Int) / 256:=o_;rw[abn,c1]at h2;rw[h3];simp (maxSteps:=300000) (disch:=omega) [↓ac,↓aa,-lh,aDa,h2]
  .have h2:=akW (n:=n) o_;have h4:cG n<=8:=by
    by_cases h0:n=0
    .subst h0;decide
    .have a:=uS (n:=n) h0;rcases bB 8 (cG n) with h | h
     .have:2 ^ 8<=2 ^ (cG n-1):=aw o_ o_;omega
     .exact h
   rw[abn]at h2;simp (maxSteps:=300000) (disch:=omega) [↓ac,↓aa,-lh,h2]
 rw[aJ Zq XG rfl];simp (maxSteps:=300000) (disch:=omega) [↓ac,↓aa,h64,amy]
abbrev vq:=@Int.natCast_mul
abbrev nh:=@Nat.and_two_pow_sub_one_eq_mod
def lH (low:Int) (w:Nat):G_->Nat->Nat
 | [],n=>n
 | v::r,n=>lH low w r (n*w+(v-low).toNat)
abbrev Sc (id:Nat) (vs:G_):Prop:=vs.length=d9 id∧∀ v∈vs,de id<=v∧v<de id+cx id
def Ht {low:Int}{w:Nat}:∀ {r:G_}{n j:Nat},(∀ v∈r,low<=v∧v<low+w)->n<w ^ j->lH low w r n<w ^ (j+r.length)
 | [],n,j,_,h=>h
 | v::r,n,j,hr,h=>by
  have h1:=hr v (.head _);have h2:n*w+(v-low).toNat<w ^ (j+1):=by
   rw[cZ];have:(n+1)*w<=w ^ j*w:=bY _ h;rw[da]at this;omega
  have:=Ht (r:=r) (fun q hq=>hr q (.tail _ hq)) h2;rw[lH,aq,show j+(r.length+1)=j+1+r.length by omega];exact this
def ado (id:Nat) (hid:ju id) (vs:G_) (hl:vs.length=d9 id) (N:Nat):∀ (r:G_) (i n:Nat),vs.drop i=r->(∀ v∈r,de id<=v∧v<de id+cx id)->n<cx id ^ i->
  (Dn prog).code (.loop vI) ⟨[(6,.ptr 0 0),(8,A_ n),(26,.d (.lst (aF vs))),(27,A_ vs.length),(28,A_ i)],⟨[(0,.cells [A_ (d9 id),A_ (de id),A_ (de id+cx id-1),A_ (bK id)])],N⟩⟩ =
  some (.exit 1,⟨[(8,A_ (lH (de id) (cx id) r n))],⟨[],N⟩⟩):=by
 obtain⟨k1,k2,k3,k4,k5,k6,k7⟩:=lT id (fO hid);have hmany:bm id=cx id ^ d9 id:=rfl;intro r
 induction r with
 | nil =>
  intro i n hd hr hn;have hi:=bb hd;rw[ah Km,lH];simp (maxSteps:=300000) (disch:=omega) [↓aa]
 | cons v r ih =>
  intro i n hd hr hn;have hv:=hr v (.head _);have hg:=xC hd;have hlt:=bv hd;have hw:=acH (d9 id) (de id) (bK id) (cx id) o_ o_;have h2:n*cx id+(v-de id).toNat<cx id ^ (i+1):=by
   rw[cZ];have:(n+1)*cx id<=cx id ^ i*cx id:=bY _ hn;rw[da]at this;omega
  have h3:cx id ^ (i+1)<=cx id ^ d9 id:=aw o_ o_;have h5:=ih (i+1) (n*cx id+(v-de id).toNat) (bn hd) (fun q hq=>hr q (.tail _ hq)) h2;have c1:((i+1:Nat):Int)=(i:Int)+1:=rfl;have h4:n*cx id<=300:=o_;have c2:((n*cx id+(v-de id).toNat:Nat):Int)=(n:Int)*cx id+v-de id:=by
   have:(((v-de id).toNat:Nat):Int)=v-de id:=o_;rw[Int.natCast_add,vq,this];omega
  have h6:0<=(n:Int)*cx id∧(n:Int)*cx id<=300:=by
   have:(n:Int)*cx id=((n*cx id:Nat):Int):=by rw[vq]
   omega
  rw[c1,c2]at h5;rw[ah Km,lH,<-h5];simp (maxSteps:=300000) (disch:=omega) [↓ac,↓aa,hg,hw]
def Xy (id:Nat) (hid:ju id) (vs:G_) (hv:Sc id vs):br prog Qx [A_ id,.d (.lst (aF vs))]=some (.tup [A_ (lH (de id) (cx id) vs 0),A_ 0]):=by
 have ho:=NX id (fO hid);have h:=ado id hid vs hv.1 1 vs 0 0 rfl hv.2 (by rw[Nat.pow_zero];omega);have c0:((0:Nat):Int)=0:=rfl;have hl:=hv.1;obtain⟨k1,k2,k3,k4,k5,k6,k7⟩:=lT id (fO hid);simp only[Um]at ho;rw[c0]at h;rw[aJ ahx agB rfl];simp (maxSteps:=300000) (disch:=omega) [↓ac,↓aa,ho,h]
def Nj:∀ id∈ids,(dC id).all (fun e=>decide (e<bm id))=true∧(dC id).length=bm id∧bK id<=2:=e_
def aab {id e:Nat}(h:ju id) (he:e<bm id):nth (dC id) e<bm id:=by
 obtain⟨h1,h2,_⟩:=Nj id (fO h);have:=bG.1 h1 _ (jg (l:=dC id) (i:=e) o_);simpa using this
def jQ (id e:Nat):C_:=ar (nth (dC id) e / 2 ^ bK id+1) (2*cG (nth (dC id) e / 2 ^ bK id+1)-1)++ar (nth (dC id) e % 2 ^ bK id) (bK id)
def ax3 {n k P:Nat}(hP:2 ^ k=P) (hk:k<=62) (h:n<9223372036854775808):fo .and (A_ (n:Int)) (A_ ((P:Int)-1))=some (.int .i64 ((n % P:Nat):Int)):=by
 have h1:2 ^ k<=2 ^ 62:=aw o_ hk;have h2:=bO k;have:=anW (k:=.i64) (a:=n) (b:=2 ^ k-1) (by simpa [pq,IntKind.signed] using h) (by simp[pq,IntKind.signed];omega);rw[nh]at this;subst hP;have c:((2 ^ k-1:Nat):Int)=((2 ^ k:Nat):Int)-1:=o_;rw[c]at this;exact this
def acB (id e:Nat) (hid:ju id) (he:e<bm id):br prog Uu [nD id,A_ e]=some (.tup [.own true 1 (am (jQ id e)),A_ 0]):=by
 have hr:=W8 id hid;obtain⟨h1,h2,h3⟩:=Nj id (fO hid);have hm:bm id<=300:=by have:=lT id (fO hid);omega
 have hrk:=aab hid he;have hg:(cR (dC id))[e]?=some [.int .i64 (nth (dC id) e:Nat)]:=En o_;unfold jQ;simp only[nD]at hr⊢;generalize nth (dC id) e=r at *;have q1:=alh (n:=r) (k:=bK id) o_;have q2:=Tk (m:=bK id) o_;have hP:1<=2 ^ bK id∧2 ^ bK id<=2 ^ 2:=⟨bO _,aw o_ h3⟩
 have hmod:r % 2 ^ bK id<2 ^ bK id:=dW _ hP.1;have q3:=ax3 (n:=r) (k:=bK id) rfl o_ o_;have hdv:r / 2 ^ bK id<=r:=lj _ _;have hr3:r<300:=o_;generalize hPP:2 ^ bK id=PP at *;generalize r / PP=RQ at *;generalize r % PP=RM at *;have q4:=afk (RQ+1) o_;have hL1:=Hz (n:=RQ+1);have hL2:=uS (n:=RQ+1) o_;have hL9:cG (RQ+1)<=9:=by
  rcases bB 9 (cG (RQ+1)) with h | h
  .have:2 ^ 9<=2 ^ (cG (RQ+1)-1):=aw o_ o_;omega
  .exact h
 have hL0:1<=cG (RQ+1):=by unfold cG;rw[aa o_];omega
 have hpw:2 ^ cG (RQ+1)<=2 ^ (2*cG (RQ+1)-1):=aw o_ o_;have p1:=mG [] ((RQ+1:Nat):Int) ((2*cG (RQ+1)-1:Nat):Int) s_ o_ .nl (.inr ⟨rfl,rfl⟩);have ho1:rq ((RQ+1:Nat):Int) ((2*cG (RQ+1)-1:Nat):Int):=by
  simp only[rq,au];generalize 2 ^ (2*cG (RQ+1)-1)=Z at *;omega
 rw[ac ho1]at p1;have p2:=fun b (hb:b.length<=900000000)=>mG b (RM:Int) ((bK id:Nat):Int) hb o_ _ (.inl rfl)
 have ho2:rq (RM:Int) ((bK id:Nat):Int):=by simp only[rq,au,hPP];omega
 simp only[ac ho2]at p2;simp only[au,aO]at p1 p2;have p3:=p2 (ar (RQ+1) (2*cG (RQ+1)-1)) g_;have c1:((2*cG (RQ+1)-1:Nat):Int)=2*(cG (RQ+1):Int)-1:=o_;have c2:((RQ+1:Nat):Int)=(RQ:Int)+1:=rfl;rw[c1,c2]at p1;rw[c2]at q4;clear p2 hL1 hL2 hpw ho1 ho2;generalize ar (RQ+1) (2*cG (RQ+1)-1)++ar RM (bK id)=RES at *;generalize ar (RQ+1) (2*cG (RQ+1)-1)=RE1 at *;generalize cG (RQ+1)=LN at *;generalize bK id=pl at *;generalize cg id=es at *;rw[aJ aiZ ai8 rfl];simp (maxSteps:=300000) (disch:=omega) [↓ac,↓aa,hr,hg,-lh,-rX,q1,q2,q3,q4,p1,p3]
abbrev tR:=@List.flatten_nil
abbrev eM:=@List.any_cons
abbrev na:=@Bool.false_or
def abE {a b:C_}:[[D.lst (am a)],[D.lst (am b)]]=Bs [a,b]:=rfl
def amt {a b c d:C_}:[[D.lst (am a)],[D.lst (am b)],[D.lst (am c)],[D.lst (am d)]]=Bs [a,b,c,d]:=rfl
def AQ {id e:Nat}(hid:ju id) (he:e<bm id):1<=(jQ id e).length∧(jQ id e).length<=20:=by
 obtain⟨h1,h2,h3⟩:=Nj id (fO hid);have hm:bm id<=300:=by have:=lT id (fO hid);omega
 have hrk:=aab hid he;have hdv:nth (dC id) e / 2 ^ bK id<=nth (dC id) e:=lj _ _;unfold jQ;rw[al,dL,dL];generalize nth (dC id) e / 2 ^ bK id=RQ at *;have hL2:=uS (n:=RQ+1) o_;have hL9:cG (RQ+1)<=9:=by
  rcases bB 9 (cG (RQ+1)) with h | h
  .have:2 ^ 9<=2 ^ (cG (RQ+1)-1):=aw o_ o_;omega
  .exact h
 have hL0:1<=cG (RQ+1):=by unfold cG;rw[aa o_];omega
 omega
def abZ (b:C_) (hb:b.length<=900000000) (x:AV) (hx:x=.d (.lst (am b))∨x=.nl∧b=[]) (d:Int) (hd:-60<=d∧d<=60):br prog ET [x,A_ d]=some (.tup [.own true 1 (am (b++jQ 12 (d+60).toNat)),A_ 0]):=by
 obtain⟨E,rfl⟩:∃ E:Nat,d=(E:Int)-60:=⟨(d+60).toNat,o_⟩
 have hok:ju 12:=o_;have he:((E:Int)-60+60).toNat<bm 12:=by show _<121;omega
 have hE:=Xy 12 hok [(E:Int)-60] ⟨rfl,fun v hv=>by
  rw[List.mem_singleton]at hv;show -60<=v∧v < -60+((121:Nat):Int);omega⟩
 have e1:lH (de 12) (cx 12) [(E:Int)-60] 0=((E:Int)-60+60).toNat:=by
  show 0*121+((E:Int)-60-(-60)).toNat=_;omega
 have e2:((E:Int)-60+60).toNat=E:=o_;rw[e2]at e1 he⊢;rw[e1]at hE;have hG:=Wn 12 hok;have hC:=acB 12 E hok he;have hcl:=AQ hok he;have hcat:=afG [b,jQ 12 E] s_ g_;have c12:((12:Nat):Int)=12:=rfl;have i1:aF [(E:Int)-60]=[[.int .i64 ((E:Int)-60)]]:=rfl;simp only[W6,nD,c12,i1,dq,tR,bg]at hE hG hC hcat;rw[<-abE]at hcat;generalize jQ 12 E=CB at *;generalize cg 12=es at *;generalize dC 12=rs at *;generalize bK 12=pl at *;rw[aJ ai1 ajd rfl];rcases hx with rfl | ⟨rfl,rfl⟩
 .simp (maxSteps:=300000) (disch:=omega) [↓ac,↓aa,hE,hG,hC,hcat]
 .have n0:am []=[]:=rfl;rw[n0]at hcat;simp (maxSteps:=300000) (disch:=omega) [↓ac,↓aa,hE,hG,hC,hcat]
def WD (F:AV) (P:Int->Bool) (l:G_) (hl:l.length<=1000000000) (h:ak) (N:Nat) (hF:firm (share F)=F) (hc:∀ v∈l,cf (Dn prog) F [A_ v] ⟨h,N⟩=some (B_ (P v),⟨h,N⟩)):∀ (r:G_) (i:Nat),l.drop i=r->
  (r.any P=true∧∃ k:Nat,(Dn prog).code (.loop gg) ⟨[(0,.d (.lst (aF l))),(1,F),(7,A_ l.length),(8,A_ i)],⟨h,N⟩⟩=some (.ret,⟨[(4,A_ k)],⟨h,N⟩⟩))∨
  (r.any P=false∧(Dn prog).code (.loop gg) ⟨[(0,.d (.lst (aF l))),(1,F),(7,A_ l.length),(8,A_ i)],⟨h,N⟩⟩=some (.exit 0,⟨[],⟨h,N⟩⟩)):=by
 intro r
 induction r with
 | nil =>
  intro i hd;have hi:=bb hd;refine .inr ⟨rfl,?_⟩;rw[ah js];simp (maxSteps:=300000) (disch:=omega) [↓aa]
 | cons v r ih =>
  intro i hd;have hg:=xC hd;have hlt:=bv hd;have hv:=hc v (by rw[<-aT i l,hd];simp);have h5:=ih (i+1) (bn hd);have c1:((i+1:Nat):Int)=(i:Int)+1:=rfl;rw[c1]at h5
  cases hp:P v with
  | true =>
   rw[hp]at hv;refine .inl ⟨by rw[eM,hp];rfl,i,?_⟩;rw[ah js];simp (maxSteps:=300000) (disch:=omega) [↓ac,↓aa,hg,hF,hv]
  | false =>
   rw[hp]at hv;rw[eM,hp,na];rcases h5 with ⟨e1,k,e2⟩ | ⟨e1,e2⟩
   .refine .inl ⟨e1,k,?_⟩;rw[ah js,<-e2];simp (maxSteps:=300000) (disch:=omega) [↓ac,↓aa,hg,hF,hv]
   .refine .inr ⟨e1,?_⟩;rw[ah js,<-e2];simp (maxSteps:=300000) (disch:=omega) [↓ac,↓aa,hg,hF,hv]
def Aw (F:AV) (P:Int->Bool) (l:G_) (hl:l.length<=1000000000) (h:ak) (N:Nat) (hF:firm (share F)=F) (hF2:firm F=F) (hc:∀ v∈l,cf (Dn prog) F [A_ v] ⟨h,N⟩=some (B_ (P v),⟨h,N⟩)) :
  (Dn prog).call mJ [.d (.lst (aF l)),F] ⟨h,N⟩=some (B_ (l.any P),⟨h,N⟩):=by
 have h1:=WD F P l hl h N hF hc l 0 rfl;have c0:((0:Nat):Int)=0:=rfl;rw[c0]at h1;have h2:∃ k:Int,(0<=k↔l.any P=true)∧(Dn prog).call yk [.d (.lst (aF l)),F] ⟨h,N⟩=some (A_ k,⟨h,N⟩):=by
  rcases h1 with ⟨e1,k,e2⟩ | ⟨e1,e2⟩
  .refine⟨k,⟨fun _=>e1,fun _=>by omega⟩,?_⟩;rw[ba ye yb rfl];simp (maxSteps:=300000) (disch:=omega) [e2]
  .refine⟨-1,⟨fun h=>by omega,fun h=>by rw[e1]at h;exact absurd h s_⟩,?_⟩;rw[ba ye yb rfl];simp (maxSteps:=300000) (disch:=omega) [e2]
 obtain⟨k,e1,e2⟩:=h2;rw[ba Gr Gz rfl]
 cases hp:l.any P with
 | true =>
  have:=e1.2 hp;simp (maxSteps:=300000) (disch:=omega) [↓ac,hF2,e2]
 | false =>
  have:¬ 0<=k:=fun h=>by rw[e1.1 h]at hp;exact absurd hp (by simp)
  simp (maxSteps:=300000) (disch:=omega) [↓aa,hF2,e2]
def gv (id:Nat):Nat:=[0,1,1,2,2,4,4,7,7,12,12,8191,0].getD id 0
abbrev atX:D_:=[A_ 0,A_ 1,A_ 1,A_ 2,A_ 2,A_ 4,A_ 4,A_ 7,A_ 7,A_ 12,A_ 12,A_ 8191,A_ 0]
def adg:br prog Yp []=some (.agg atX):=DV 100 (by kernel_rfl)
def avN {id:Nat}(h:id<=12):ixV 13 1 false (.agg atX) (A_ id)=some (A_ (gv id)):=by
 obtain rfl | rfl | rfl | rfl | rfl | rfl | rfl | rfl | rfl | rfl | rfl | rfl | rfl:id=0∨id=1∨id=2∨id=3∨id=4∨id=5∨id=6∨id=7∨id=8∨id=9∨id=10∨id=11∨id=12:=o_
 all_goals rfl
def bH (id:Nat):Nat:=if id<5 then 4 else 2
def aqY (id:Nat):br prog YA [A_ id]=some (A_ (bH id)):=by
 rw[aJ al3 ame rfl];unfold bH;by_cases h:id<5
 .simp (disch:=omega) [↓ac]
 .simp (disch:=omega) [↓aa]
def Lq (m:Nat) (v:Int):Bool:=decide ((m:Int)<v∨v < -(m:Int))
def aw8 (m:Nat) (hm:m<=100000) (v:Int) (N:Nat):(Dn prog).call FM [A_ v,.ptr 0 0] ⟨[(0,.cells [A_ m])],N⟩=some (B_ (Lq m v),⟨[(0,.cells [A_ m])],N⟩):=by
 rw[ba adU adz rfl];unfold Lq;by_cases h1:(m:Int)<v
 .simp (maxSteps:=300000) (disch:=omega) [↓ac,h1]
 .by_cases h2:v < -(m:Int)
  .simp (maxSteps:=300000) (disch:=omega) [↓ac,↓aa,h1,h2]
  .simp (maxSteps:=300000) (disch:=omega) [↓ac,↓aa,h1,h2]
def QY (id:Nat) (hid:1<=id∧id<=11) (vs:G_) (hv:vs.length=bH id):br prog Ux [A_ id,.d (.lst (aF vs))]=some (.tup [B_ ((!(vs.any (Lq (gv id))))),A_ 0]):=by
 have hm:gv id<=100000:=by
  obtain rfl | rfl | rfl | rfl | rfl | rfl | rfl | rfl | rfl | rfl | rfl:id=1∨id=2∨id=3∨id=4∨id=5∨id=6∨id=7∨id=8∨id=9∨id=10∨id=11:=o_
  all_goals decide
 have hd4:bH id<=4:=by unfold bH;split<;>omega
 have h1:=Aw (.fn FM [] [.ptr 0 0]) (Lq (gv id)) vs o_ [(0,.cells [A_ (gv id)])] 1 rfl rfl fun v _=>by
  simp (maxSteps:=300000) (disch:=omega) [aw8 (gv id) hm v 1]
 have h2:=avN (id:=id) o_;have h3:=aqY id;rw[aJ aig aie rfl];simp (maxSteps:=300000) (disch:=omega) [↓ac,↓aa,h3,adg,h2,h1]
def ky (id:Nat) (v:Int):Int:=if id=11∧16<=v.natAbs then 16 else v.natAbs
def qg (v:Int):C_:=if v=0 then [] else if v<0 then [1] else [0]
def wF (id:Nat) (v:Int):C_:=if id=11∧16<=v.natAbs then List.replicate (cG v.natAbs-5) 1++(0::ar (v.natAbs % 2 ^ (cG v.natAbs-1)) (cG v.natAbs-1)) else []
def zX (id:Nat) (vs:G_):C_:=if kA id then jQ id (lH (de id) (cx id) vs 0)
 else jQ id (lH (de id) (cx id) (vs.map (ky id)) 0)++(vs.flatMap qg++vs.flatMap (wF id))
def anM (v:Int) (h:-100000<=v∧v<=100000):br prog UV [A_ v]=some (A_ v.natAbs):=by
 rw[aJ aiQ ajy rfl];by_cases h0:v<0
 .have:((v.natAbs:Nat):Int)=-v:=o_;rw[this];simp (disch:=omega) [↓ac]
 .have:((v.natAbs:Nat):Int)=v:=o_;rw[this];simp (disch:=omega) [↓aa]
def aqA:∀ m∈List.range 9,br prog Ms [.d (.lst [[.int .u8 1]]),A_ m]=some (.own true 1 (am (List.replicate m 1))):=IK 100 (List.range 9) (by kernel_rfl)
def aoO {m:Nat}{h:ak}{xs ys:E_}(hl:xs.length+ys.length<=1000000000):∃ v,eC m h (aD m xs) ys=some (v,h)∧firm v=aD m (xs++ys):=by
 cases xs with
 | nil =>
  cases ys with
  | nil=>exact⟨.nl,rfl,rfl⟩
  | cons y r =>
   simp only[aq,bu]at hl;exact⟨.own true m (y::r),by simp (disch:=omega) [aD,↓ac],rfl⟩
 | cons x r =>
  exact⟨.own false m (x::r++ys),by
   grind [acO,aj1,Z8,ajW,akl,aW],rfl⟩
def aup {v:Int}(h:-100000<=v∧v<0):wr .u64 v=v+18446744073709551616:=by
 grind [wr,oA,IntKind.wrap,IntKind.bits,IntKind.signed]
def ajf (id:Nat) (hid:1<=id∧id<=11) (pl ents ranks:D) (x0:AV) (vs:G_) (hl:vs.length<=4) (N:Nat):∀ (r:G_) (i:Nat) (sz:G_) (sg es:C_),vs.drop i=r->(∀ v∈r,v.natAbs<=8191)->sz.length<=100+i->sg.length<=100+i->es.length<=100+100*i->
  (Dn prog).code (.loop zB) ⟨[(0,x0),(4,.ptr 0 0),(15,aD 1 (aF sz)),(16,aD 1 (am sg)),(17,aD 1 (am es)),(69,.d (.lst (aF vs))),(70,A_ vs.length),(71,A_ i)],⟨[(0,.cells [A_ id,.d pl,.d ents,.d ranks])],N⟩⟩ =
  some (.exit 0,⟨[(0,x0),(4,.ptr 0 0),(15,aD 1 (aF (sz++r.map (ky id)))),(16,aD 1 (am (sg++r.flatMap qg))),(17,aD 1 (am (es++r.flatMap (wF id))))],⟨[(0,.cells [A_ id,.d pl,.d ents,.d ranks])],N⟩⟩):=by
 intro r
 induction r with
 | nil =>
  intro i sz sg es hd hr h1 h2 h3;have hi:=bb hd;rw[ah FW];simp (disch:=omega) [↓aa]
 | cons v r ih =>
  intro i sz sg es hd hr h1 h2 h3;have hg:=xC hd;have hlt:=bv hd;have hv:=hr v (.head _);have hs:=anM v o_;have c1:((i+1:Nat):Int)=(i:Int)+1:=rfl;have hlg:=cT (l:=sg);have hle:=cT (l:=es);have hsz:=iB (l:=sz);obtain⟨n,hn⟩:∃ n,n=v.natAbs:=⟨_,rfl⟩
  rw[<-hn]at hs hv;have hvs:Ym .u64 (A_ v)=some (.int .u64 (wr .u64 v)):=rfl;have hpos:0<v->fo .shr (.d (.int .u64 v)) (.d (.int .u64 63))=some (.int .u64 0):=fun h=>by
   rw[lh o_];have:min ((63:Int)).toNat IntKind.u64.bits=63:=rfl
   grind
  have hneg:v<0->fo .shr (.d (.int .u64 (wr .u64 v))) (.d (.int .u64 63))=some (.int .u64 1):=fun h=>by
   rw[aup o_,lh o_];have:min ((63:Int)).toNat IntKind.u64.bits=63:=rfl
   grind
  have hb1:am sg++[[D.int .u8 1]]=am (sg++[1]):=by simp[am]
  have hb0:am sg++[[D.int .u8 0]]=am (sg++[0]):=by simp[am]
  by_cases he:id=11∧16<=v.natAbs
  .obtain⟨h11,h16⟩:=he;rw[<-hn]at h16;have hL1:=Hz (n:=n);have hL2:=uS (n:=n) o_;have hL13:cG n<=13:=by
    rcases bB 13 (cG n) with h | h
    .have:2 ^ 13<=2 ^ (cG n-1):=aw o_ o_;omega
    .exact h
   have hL5:5<=cG n:=by
    rcases bB (cG n) 5 with h | h
    .have:2 ^ cG n<=2 ^ 4:=aw o_ o_;omega
    .exact h
   obtain⟨m,hm⟩:∃ m,cG n=m+5:=⟨cG n-5,o_⟩
   have e1:ky id v=16:=by grind [ky]
   have e2:wF id v=List.replicate m 1++(0::ar (n % 2 ^ (m+4)) (m+4)):=by
    grind [wF]
   have hl2:=afk n o_;have hrp:=aqA m (dR.2 o_);have hlr:(am (List.replicate m 1)).length=m:=u_;obtain⟨w,hw1,hw2⟩:=aoO (m:=1) (h:=[(0,.cells [A_ id,.d pl,.d ents,.d ranks])]) (xs:=am es) (ys:=am (List.replicate m 1)) o_;have hbe:am es++am (List.replicate m 1)=am (es++List.replicate m 1):=af0;rw[hbe]at hw2;have hlw:(am (es++List.replicate m 1)).length=es.length+m:=u_;have hbw:am (es++List.replicate m 1)++[[D.int .u8 0]]=am (es++List.replicate m 1++[0]):=by simp[am]
   have hp4:2 ^ (m+4)<=2 ^ 12:=aw o_ o_;have hmod:n % 2 ^ (m+4)<2 ^ (m+4):=dW _ (bO _);have q2:=Tk (m:=m+4) o_;have q3:=ax3 (n:=n) (k:=m+4) rfl o_ o_;have p1:=mG (es++List.replicate m 1++[0]) ((n % 2 ^ (m+4):Nat):Int) ((m+4:Nat):Int) d_ o_ _ (.inl rfl);rw[ac d_]at p1;simp only[au]at p1;have c4:((m+4:Nat):Int)=(m:Int)+4:=rfl;have c5:((m+5:Nat):Int)=(m:Int)+5:=rfl;rw[hm,c5]at hl2;rw[c4]at p1 q2;have h5:=fun s2 (h:s2.length<=101+i)=>ih (i+1) (sz++[16]) s2 (es++List.replicate m 1++[0]++ar (n % 2 ^ (m+4)) (m+4)) (bn hd) (fun q hq=>hr q (.tail _ hq)) d_ o_ (by simp;omega)
   generalize n % 2 ^ (m+4)=RM at *;generalize 2 ^ (m+4)=PP at *;have eo:aD 1 (aF (sz++[16]))=.own false 1 (aF (sz++[16])):=lx (by simp[aF]);have eo3:aD 1 (am (es++List.replicate m 1++[0]++ar RM (m+4)))=.own false 1 (am (es++List.replicate m 1++[0]++ar RM (m+4))):=lx (by simp[am]);have eL:es++List.replicate m 1++[0]++ar RM (m+4)++r.flatMap (wF id)=es++(List.replicate m 1++(0::ar RM (m+4))++r.flatMap (wF id)):=s_;simp only[eo3,eL]at h5;generalize es++List.replicate m 1++[0]++ar RM (m+4)=ES at *;generalize es++List.replicate m 1++[0]=E0 at *;generalize es++List.replicate m 1=EM at *;simp only[c1,eo,aA,b8]at h5;rw[ah FW,bZ,aH,aH,e1,e2];have v0:v≠0:=o_;by_cases hvn:v<0
   .have e3:qg v=[1]:=by grind [qg]
    have eo2:aD 1 (am (sg++[1]))=.own false 1 (am (sg++[1])):=lx (by simp[am]);have h6:=h5 (sg++[1]) d_;simp only[eo2,aA,b8]at h6;rw[e3,b8];simp only[aA,aQ]at h6⊢;rw[<-h6];simp (disch:=omega) [↓ac,↓aa,hg,hs,-lh,-rX,hneg hvn,hb1,hl2,hrp,hw1,hw2,hbw,q2,q3,p1]
   .have hvp:0<v:=o_;have e3:qg v=[0]:=by grind [qg]
    have eo2:aD 1 (am (sg++[0]))=.own false 1 (am (sg++[0])):=lx (by simp[am]);have h6:=h5 (sg++[0]) d_;simp only[eo2,aA,b8]at h6;rw[e3,b8];simp only[aA,aQ]at h6⊢;rw[<-h6];simp (disch:=omega) [↓ac,↓aa,hg,hs,-lh,-rX,hpos hvp,hb0,hl2,hrp,hw1,hw2,hbw,q2,q3,p1]
  .have e1:ky id v=n:=by grind [ky]
   have e2:wF id v=[]:=by grind [wF]
   have h5:=fun s2 (h:s2.length<=101+i)=>ih (i+1) (sz++[(n:Int)]) s2 es (bn hd) (fun q hq=>hr q (.tail _ hq)) d_ o_ (by omega)
   have eo:aD 1 (aF (sz++[(n:Int)]))=.own false 1 (aF (sz++[(n:Int)])):=lx (by simp[aF]);simp only[c1,eo,aA,b8]at h5;rw[ah FW,bZ,aH,aH,e1,e2,aO];have hen:¬ (id=11∧16<=n):=o_;by_cases v0:v=0
   .have e3:qg v=[]:=by grind [qg]
    rw[e3,aO,<-h5 sg o_];by_cases h11:id=11
    .simp (disch:=omega) [↓ac,↓aa,hg,hs]
    .simp (disch:=omega) [↓ac,↓aa,hg,hs]
   .by_cases hvn:v<0
    .have e3:qg v=[1]:=by grind [qg]
     have eo2:aD 1 (am (sg++[1]))=.own false 1 (am (sg++[1])):=lx (by simp[am]);have h6:=h5 (sg++[1]) d_;simp only[eo2,aA,b8]at h6;rw[e3,b8,<-h6];by_cases h11:id=11
     .simp (disch:=omega) [↓ac,↓aa,hg,hs,-lh,hneg hvn,hb1]
     .simp (disch:=omega) [↓ac,↓aa,hg,hs,-lh,hneg hvn,hb1]
    .have hvp:0<v:=o_;have e3:qg v=[0]:=by grind [qg]
     have eo2:aD 1 (am (sg++[0]))=.own false 1 (am (sg++[0])):=lx (by simp[am]);have h6:=h5 (sg++[0]) d_;simp only[eo2,aA,b8]at h6;rw[e3,b8,<-h6];by_cases h11:id=11
     .simp (disch:=omega) [↓ac,↓aa,hg,hs,-lh,hpos hvp,hb0]
     .simp (disch:=omega) [↓ac,↓aa,hg,hs,-lh,hpos hvp,hb0]
theorem Cc:∀ id∈ids.take 11,(kA id=true->de id=-(gv id:Int)∧cx id=2*gv id+1)∧(kA id=false->de id=0∧(id≠11->cx id=gv id+1)∧(id=11->cx id=17))∧d9 id=bH id∧gv id<=8191:=e_
theorem Tw {id:Nat}(h:1<=id∧id<=11):id∈ids.take 11:=by
 show id∈[1,2,3,4,5,6,7,8,9,10,11];simp only[az,cQ,fh];omega
abbrev OJ (id:Nat) (vs:G_):Prop:=vs.length=bH id∧∀ v∈vs,v.natAbs<=gv id
def awI {id:Nat}{vs:G_}(h:∀ v∈vs,v.natAbs<=gv id):vs.any (Lq (gv id))=false:=by
 grind [Lq]
def Nq {id:Nat}(hid:1<=id∧id<=11) {vs:G_}(h:OJ id vs):(kA id=true->Sc id vs)∧(kA id=false->Sc id (vs.map (ky id))):=by
 grind [Cc,Tw,ky]
def af5 {vs:G_}:(vs.flatMap qg).length<=vs.length:=by
 induction vs<;>grind [qg]
def awx {id:Nat}{v:Int}(h:v.natAbs<=8191):(wF id v).length<=30:=by
 unfold wF;split
 .have hL2:v.natAbs≠0->2 ^ (cG v.natAbs-1)<=v.natAbs:=uS;have hL13:cG v.natAbs<=13:=by
   rcases bB 13 (cG v.natAbs) with h | h
   .have:2 ^ 13<=2 ^ (cG v.natAbs-1):=aw o_ o_;omega
   .exact h
  grind [dL]
 .simp
def VM {id:Nat}:∀ {vs:G_},(∀ v∈vs,v.natAbs<=8191)->(vs.flatMap (wF id)).length<=30*vs.length
 | [],_=>by simp
 | v::r,h=>by
  have h1:=awx (id:=id) (h v (.head _));have h2:=VM (id:=id) (vs:=r) fun q hq=>h q (.tail _ hq)
  grind
def aqN (b:C_) (hb:b.length<=900000000) (x:AV) (hx:x=.d (.lst (am b))∨x=.nl∧b=[]) (id:Nat) (hid:1<=id∧id<=11) (vs:G_) (hv:OJ id vs):br prog Hf [x,nD id,.d (.lst (aF vs))]=some (.tup [.own true 1 (am (b++zX id vs)),A_ 0]):=by
 have hok:ju id:=o_;have hF:=QY id hid vs hv.1;rw[awI hv.2]at hF;have hS:=Qv id (Tw hid);obtain⟨m1,m2,m3,m4⟩:=Cc id (Tw hid);obtain⟨f1,f2⟩:=Nq hid hv;have hE:=Xy id hok;have hC:=fun e he=>acB id e hok he
 have hd4:bH id<=4:=by grind [bH]
 have hvl:=hv.1;have hv8:∀ v∈vs,v.natAbs<=8191:=fun v h=>aM (hv.2 v h) m4
 simp only[nD]at hC⊢;have hmany:bm id=cx id ^ d9 id:=rfl;unfold zX;by_cases hs:kA id=true
 .rw[hs]at hS;have hin:=f1 hs;have hE:=hE vs hin;have hlt:=Ht (n:=0) (j:=0) hin.2 s_;rw[bz,hin.1,<-hmany]at hlt;have hC:=hC _ hlt;have hcl:=AQ hok hlt;have hcat:=afG [b,jQ id (lH (de id) (cx id) vs 0)] s_ d_;simp only[dq,tR,bg]at hcat;rw[<-abE]at hcat;rw[ac hs];generalize jQ id (lH (de id) (cx id) vs 0)=CB at *;generalize lH (de id) (cx id) vs 0=EN at *;generalize cg id=es at *;generalize dC id=rs at *;generalize bK id=pl at *;rw[aJ Zt Yb rfl];rcases hx with rfl | ⟨rfl,rfl⟩
  .simp (disch:=omega) [↓ac,hF,hS,hE,hC,hcat]
  .have n0:am []=[]:=rfl;rw[n0]at hcat;simp (disch:=omega) [↓ac,hF,hS,hE,hC,hcat]
 .have hs2:kA id=false:=u_;rw[hs2]at hS;have hin:=f2 hs2;have hE:=hE _ hin;have hlt:=Ht (n:=0) (j:=0) hin.2 s_;rw[bz,hin.1,<-hmany]at hlt;have hC:=hC _ hlt;have hcl:=AQ hok hlt;have hsl:=af5 (vs:=vs);have hel:=VM (id:=id) hv8;have hcat:=afG [b,jQ id (lH (de id) (cx id) (vs.map (ky id)) 0),vs.flatMap qg,vs.flatMap (wF id)] s_ d_;simp only[dq,tR,bg]at hcat;rw[<-amt]at hcat;have hl0:=fun x0=>ajf id hid (.int .i64 (bK id)) (.lst (cR (cg id))) (.lst (cR (dC id))) x0 vs o_ 1 vs 0 [] [] [] rfl hv8 s_ s_ (by simp)
  have c0:((0:Nat):Int)=0:=rfl;have n0:am []=[]:=rfl;have n1:aF []=[]:=rfl;have hne:aF (vs.map (ky id))≠[]:=by
   grind [aF,List.length_nil,bH]
  simp only[n0,n1,qB,aO,c0,lx hne]at hl0;rw[aa hs];generalize jQ id (lH (de id) (cx id) (vs.map (ky id)) 0)=CB at *;generalize lH (de id) (cx id) (vs.map (ky id)) 0=EN at *;generalize cg id=es at *;rw[aJ Zt Yb rfl];rcases hx with rfl | ⟨rfl,rfl⟩
  .simp (disch:=omega) [↓ac,hF,hS,hl0,hE,hC,hcat]
  .rw[n0]at hcat;simp (disch:=omega) [↓ac,hF,hS,hl0,hE,hC,hcat]
def qZ (k n w z:Int):C_:=if k=0 then [] else if k=13 then (if z<0 then ar n.toNat 9 else jQ 12 (n-z+60).toNat) else jQ 12 (n-w+60).toNat
def pg:G_->G_->Int->Int->C_
 | k::r,n::t,w,z=>qZ k n w z++pg r t (jY k n w z).1 (jY k n w z).2
 | _,_,_,_=>[]
def nq:H_->J_->Int->Int->C_
 | l::r,t::s,w,z=>pg (aK l) t w z++(match dJ (aK l) t w z with
  | some (w,z)=>nq r s w z
  | none=>[])
 | _,_,_,_=>[]
def acj {k n w z:Int}(h:k≠0->lO k n w z):(qZ k n w z).length<=20:=by
 unfold qZ;by_cases h0:k=0
 .simp_all
 .have hok:ju 12:=o_;have hc:=fun e (he:e<121)=>(AQ (id:=12) (e:=e) hok he).2
  by_cases h13:k=13
  .by_cases hz:z<0
   .simp_all
   grind
  grind
structure LP (F:Obj->AV->Int->Int->ak) (ss:J_) (g:Int) (L N:Nat):Prop where
 gl:∀ q v w z,get (F q v w z) L=some q
 pl:∀ q v w z q',put (F q v w z) L q'=F q' v w z
 g0:∀ q v w z,get (F q v w z) 0=some (.cells [v])
 p0:∀ q v w z v',put (F q v w z) 0 (.cells [v'])=F q v' w z
 g1:∀ q v w z,get (F q v w z) 1=some (.cells [.d (.lst (cS ss))])
 g2:∀ q v w z,get (F q v w z) 2=some (.cells [A_ w,A_ z])
 p2:∀ q v w z w' z',put (F q v w z) 2 (.cells [A_ w',A_ z'])=F q v w' z'
 g3:∀ q v w z,get (F q v w z) 3=some (.cells [.ptr 2 0])
 gN:∀ q v w z,get (F q v w z) N=some (.cells [A_ g])
abbrev aDj (gs:H_) (g N:Nat):aV:=[(4,.ptr 0 0),(7,.ptr 1 0),(11,.ptr 3 0),(12,.ptr N 0),(32,.d (.lst (bD gs))),(33,A_ gs.length),(34,A_ g),(40,.fn i9 [] [.ptr (N+1) 0])]
abbrev aez (gs:H_) (g N:Nat):Obj:=.loop (aDj gs g N) [41,42] xV xt false none
def aAD {F:Obj->AV->Int->Int->ak}{L:Nat}(ss:J_) (hss:ss.length<=1000) (gs:H_) (hgs:gs.length<=1000) (g N:Nat) (H:LP F ss g L N) (t:G_) (ht:t.length<=100000) (hg:(cS ss)[g]?=some [.lst (aF t)]) (a:Nat) (k:Int) (b:C_) (hb:b.length<=800000000) (w z:Int) (M:Nat) (n:Int) (r:G_) (hd:t.drop a=n::r) (h0:k=0->n=0) (h1:k≠0->lO k n w z) (hk:0<=k∧k<=13) (hw:um w) (hz:um z) :
  cf (Dn prog) (.yield L) [A_ (a:Int),A_ k] ⟨F (aez gs g N) (.own false 1 (am b)) w z,M⟩=some (B_ true,⟨F (aez gs g N) (.own false 1 (am (b++qZ k n w z))) (jY k n w z).1 (jY k n w z).2,M⟩):=by
 have ha:=bv hd;have hn:=xC hd;have gl:g<ss.length:=by
  obtain⟨h,_⟩:=aI.1 hg;simpa using h
 have T:=fun q v=>Nk (hp:=fun w z=>F q v w z) (A:=2) ⟨fun s z=>H.g2 q v s z,fun s z s' z'=>H.p2 q v s z s' z'⟩ k n w z M
 by_cases k0:k=0
 .have:=h0 k0;subst k0 this;simp (disch:=omega) [xO,xP,↓ac,↓aa,hg,hn,H.gl,H.pl,H.g1,H.gN,jY,qZ];rfl
 .have hT:=h1 k0;have hn5:=Sg hT;have T:=fun q v=>T q v o_ o_ (by omega)
  simp only[ac hT]at T;have e:(jY k n w z)=if k=13 then (w,n) else (n,z):=by rw[jY,aa k0]
  have es:qZ k n w z=if k=13 then (if z<0 then ar n.toNat 9 else jQ 12 (n-z+60).toNat) else jQ 12 (n-w+60).toNat:=by grind [qZ]
  unfold lO at hT;by_cases k13:k=13
  .rw[ac k13]at hT;rw[e,ac k13,es,ac k13];simp only[ac k13]at T;subst k13;by_cases hz0:z<0
   .rw[ac hz0];have p1:=mG b n 9 o_ o_ _ (.inl rfl);have c9:(9:Int).toNat=9:=rfl;rw[ac d_,c9]at p1;simp (disch:=omega) [xO,xP,↓ac,↓aa,hg,hn,H.gl,H.pl,H.g0,H.p0,H.g1,H.g2,H.g3,H.gN,T,p1];rfl
   .have p1:=abZ b o_ _ (.inl rfl) (n-z) o_;simp (disch:=omega) [xO,xP,↓ac,↓aa,hg,hn,H.gl,H.pl,H.g0,H.p0,H.g1,H.g2,H.g3,H.gN,T,p1];rfl
  .rw[aa k13]at hT;rw[e,aa k13,es,aa k13];have p1:=abZ b o_ _ (.inl rfl) (n-w) o_;simp (disch:=omega) [xO,xP,↓aa,hg,hn,H.gl,H.pl,H.g0,H.p0,H.g1,H.g2,H.g3,H.gN,T,p1];rfl
abbrev FP (ss:J_) (g N:Nat) (l:P_) (T:ak) (q:Obj) (v:AV) (w z:Int):ak :=
 (0,.cells [v])::(1,.cells [.d (.lst (cS ss))])::(2,.cells [A_ w,A_ z])::(3,.cells [.ptr 2 0])::(N,.cells [A_ g])::(N+1,.cells [.d (.lst (gI l))])::(N+1+1,q)::T
def azS {ss:J_}{g N:Nat}{l:P_}{T:ak}(hN:4<=N):LP (FP ss g N l T) ss g (N+1+1) N:=by
 constructor<;>intro q m w z<;>(try intro q')<;>(try intro q'')<;>simp (disch:=omega) [↓aa]
abbrev ayF (ss:J_) (g N:Nat) (l:P_) (q:Obj) (s:C_×Int×Int) (T:ak):ak:=FP ss g N l T q (.own false 1 (am s.1)) s.2.1 s.2.2
def aCL {ss:J_}{g N:Nat}{l:P_}{q:Obj}(hN:4<=N):Tl (ayF ss g N l q) (N+1+1+1):=by
 constructor
 .intro s K o h;simp (disch:=omega) [↓aa]
 .intro s K o o' h;simp (disch:=omega) [↓aa]
 .intro s K o h;simp (disch:=omega) [↓aa]
 .intro s K o h;simp (disch:=omega) [↓aa]
def apU {bks t:G_}{a:Nat}{k n:Int}{w z:Int}(hk:bks[a]?=some k) (hd:t.drop a=n::t.drop (a+1)):pg (bks.drop a) (t.drop a) w z=qZ k n w z++pg (bks.drop (a+1)) (t.drop (a+1)) (jY k n w z).1 (jY k n w z).2:=by
 grind [List.drop_eq_getElem_cons,pg]
def aAe (ss:J_) (hss:ss.length<=1000) (gs:H_) (hgs:gs.length<=1000) (g N:Nat) (hN:4<=N) (t:G_) (ht:t.length<=100000) (hg:(cS ss)[g]?=some [.lst (aF t)]) (l:P_) (hl:∀ k∈aK l,0<=k∧k<=13) (hbl:(aK l).length<=100000) (fin:Int×Int) (TOT:C_) :
  Rnd (ayF ss g N l (aez gs g N)) noH (N+1+1+1) (N+1+1) (aK l) (fun a k s=>.inl (s.1++qZ k (nth t a) s.2.1 s.2.2,jY k (nth t a) s.2.1 s.2.2)) (fun a s=>(s.1.length<=700000000+20*a∧s.1++pg ((aK l).drop a) (t.drop a) s.2.1 s.2.2=TOT)∧um s.2.1∧um s.2.2∧dJ ((aK l).drop a) (t.drop a) s.2.1 s.2.2=some fin):=by
 intro a k s K o M hk hi hK hM;obtain⟨⟨i0,i1⟩,i2,i3,i4⟩:=hi;obtain⟨n,d1,d2,d3,d4⟩:=acd hk (by rw[i4];simp);have hlt:a<(aK l).length:=d_;have hn:nth t a=n:=by
  grind [bv,qA]
 have hkm:=hl k d_;rw[i4]at d4;rw[apU hk d1]at i1;have hsl:=acj (k:=k) (n:=n) (w:=s.2.1) (z:=s.2.2) d3;have hgo:um (jY k n s.2.1 s.2.2).1∧um (jY k n s.2.1 s.2.2).2:=by
  grind [jY]
 refine .inl ⟨(s.1++qZ k n s.2.1 s.2.2,jY k n s.2.1 s.2.2),u_,⟨⟨d_,u_⟩,hgo.1,hgo.2,d4.symm⟩,?_⟩;obtain⟨b,w,z⟩:=s;simp only at i0 i1 i2 i3;exact aAD ss hss gs hgs g N (azS (ss:=ss) (g:=g) (l:=l) (T:=[(K,o)]) hN) t ht hg a k b o_ w z M n _ d1 d2 d3 hkm i2 i3
abbrev aCW (ss:J_) (v:AV) (w z:Int):ak:=[(0,.cells [v]),(1,.cells [.d (.lst (cS ss))]),(2,.cells [A_ w,A_ z]),(3,.cells [.ptr 2 0])]
def VN:∀ {bks t:G_}{w z:Int},dJ bks t w z≠none->(pg bks t w z).length<=20*bks.length
 | [],[],_,_,_=>by simp[pg]
 | [],_::_,_,_,h=>absurd rfl h
 | _::_,[],_,_,h=>absurd rfl h
 | k::r,n::t,w,z,h=>by
  have h1:=pY h;have h2:=acj h1.2.1;have h3:=VN (by rw[h1.2.2]at h;exact h)
  grind [pg]
theorem ta {l:P_}{lf:Int}(h:fitsS lf l) (h0:0<=lf):((aK l).length:Int)=lf:=by
 induction l generalizing lf<;>grind [fitsS,aK]
def afl (ss:J_) (hss:ss.length<=1000) (hss2:∀ t∈ss,t.length<=100000) (gs:H_) (hgs:gs.length<=1000) (m:Int) (hm:0<=m∧m<=1000):∀ (gr:H_) (sr:J_) (i N:Nat) (b:C_) (w z:Int),gs.drop i=gr->ss.drop i=sr->fq m gr->(∀ l∈gr,l.length<=1000)->um w->um z->mC gr sr w z≠none->4<=N->b.length+20000*gr.length<=600000000->
  ∃ M w' z',(Dn prog).code (.loop xD) ⟨[(4,.ptr 0 0),(7,.ptr 1 0),(11,.ptr 3 0),(32,.d (.lst (bD gs))),(33,A_ gs.length),(34,A_ i)],⟨aCW ss (.own false 1 (am b)) w z,N⟩⟩ =
  some (.exit 0,⟨[(4,.ptr 0 0)],⟨[(0,.cells [.own false 1 (am (b++nq gr sr w z))]),(2,.cells [A_ w',A_ z'])],M⟩⟩):=by
 intro gr
 induction gr with
 | nil =>
  intro sr i N b w z hd hd2 hf hl hw hz hr hN hb;have hi:=bb hd;refine⟨N,w,z,?_⟩;have e:b++nq [] sr w z=b:=by grind [nq]
  rw[ah Mj,e];simp (disch:=omega) [↓ac,↓aa]
 | cons l r ih =>
  intro sr i N b w z hd hd2 hf hl hw hz hr hN hb;simp only[aq]at hb;have hg:=kH hd;have hlt:=bv hd;have hfl:=hf l (.head _);have hll:=hl l (.head _);have hbk:=ta hfl hm.1
  cases sr with
  | nil=>exact absurd rfl hr
  | cons t s =>
   have hgt:=E3 hd2;have htl:=hss2 t (by rw[<-aT i ss,hd2];simp);rw[mC]at hr
   cases hrow:dJ (aK l) t w z with
   | none=>simp_all
   | some fin =>
    rw[hrow]at hr;have hrl:=VN (bks:=aK l) (t:=t) (w:=w) (z:=z) u_;have hb1:=aa9 (p:=N+1) (aCL (ss:=ss) (g:=i) (l:=l) (q:=aez gs i N) hN) amw l (aAe ss hss gs hgs i N hN t htl hgt l (O9 hfl) o_ fin (b++pg (aK l) t w z)) (fun s=>by simp (disch:=omega) [↓aa]) hll (fun q hq=>by have:=(tU hfl hm.2 q hq).1;omega) (N+1+1+1) (b,w,z) (ai _) ⟨⟨d_,rfl⟩,hw,hz,u_⟩;rcases hb1 with ⟨⟨b2,w2,z2⟩,M,e1,⟨⟨e2,e2'⟩,e3,e4,e5⟩,e6,e7⟩ | ⟨z,_⟩
    .rw[cD (ai _)]at e5 e2';obtain⟨e8,e9⟩:=ae2 e5;subst e8;have e10:b2=b++pg (aK l) t w z:=by
      grind [pg]
     subst e10;obtain⟨M2,w3,z3,f⟩:=ih s (i+1) M (b++pg (aK l) t w z) w2 z2 (bn hd) (bn hd2) (fun q hq=>hf q (.tail _ hq)) (fun q hq=>hl q (.tail _ hq)) e3 e4 hr o_ d_;refine⟨M2,w3,z3,?_⟩;have eT:b++nq (l::r) (t::s) w z=b++pg (aK l) t w z++nq r s w2 z2:=by grind [nq]
     rw[ah Mj,eT,<-f];simp (disch:=omega) [↓ac,↓aa,hg,KR,rd,e7]
    grind
def aoz (b:C_) (hb:b.length<=500000000) (x:AV) (hx:x=.d (.lst (am b))∨x=.nl∧b=[]) (gain m:Int) (g:H_) (t:J_) (hgn:0<=gain∧gain<=255) (hl:g.length<=8) (hm:0<=m∧m<=40) (hf:fq m g) (hf2:∀ l∈g,l.length<=1000) (ht:A8 gain g t) (ht2:∀ l∈t,l.length<=100000) :
  br prog U3 [x,A_ gain,.d (.lst (bD g)),.d (.lst (cS t))]=some (.tup [.own true 1 (am (b++nq g t gain (-1))),A_ 0]):=by
 have h1:=aje gain m g t hgn hl hm hf hf2 ht ht2;have hlen:=JP ht;obtain⟨M,w,z,e⟩:=afl t o_ ht2 g o_ m o_ g t 0 4 b gain (-1) rfl rfl hf hf2 o_ o_ ht (ai _) o_;have c0:((0:Nat):Int)=0:=rfl;rw[c0]at e;have hp:=mG b 0 0 o_ o_ x hx;rw[ac k_]at hp;have t0:(0:Int).toNat=0:=rfl;rw[t0,ar,bg]at hp;rw[aJ ajq ai4 rfl];rcases hx with rfl | ⟨rfl,rfl⟩
 all_goals simp (disch:=omega) [↓ac,↓aa,h1,hp,e]
structure bT where
 len:Int
 order:Int
 down:Bool
 fine:Bool
 coefs:G_
abbrev AA_:=List bT
abbrev N_:=List (AA_)
abbrev bT.cells (f:bT):W_:=[.int .i64 f.len,.int .i64 f.order,.bool f.down,.bool f.fine,.lst (aF f.coefs)]
abbrev bT.av (f:bT):D_:=[A_ f.len,A_ f.order,B_ f.down,B_ f.fine,.d (.lst (aF f.coefs))]
def ej (l:AA_):E_:=l.map bT.cells
@[simp] def arn {l:AA_}:(ej l).length=l.length:=by simp[ej]
def An {l:AA_}{i:Nat}{s:bT}{r:AA_}(h:l.drop i=s::r):(ej l)[i]?=some [.int .i64 s.len,.int .i64 s.order,.bool s.down,.bool s.fine,.lst (aF s.coefs)]:=by
 grind [List.getElem?_cons_zero,ej]
def cK (t:N_):E_:=t.map fun l=>[.lst (ej l)]
@[simp] theorem acN {t:N_}:(cK t).length=t.length:=by simp[cK]
def tj {g:N_}{i:Nat}{l:AA_}{r:N_}(h:g.drop i=l::r):(cK g)[i]?=some [.lst (ej l)]:=by
 grind [List.getElem?_cons_zero,cK]
def ahl (h:Int):∀ (l:G_),l.any (fun c=>decide (c < -h∨h<=c))=!decide (∀ c∈l,-h<=c∧c<h)
 | []=>by simp
 | c::r=>by
  grind
def dB (fine:Bool):Int:=if fine then 8 else 4
def Ac (sh:Bool):Int:=if sh then 15 else 63
def wE (sh:Bool):Int:=if sh then 7 else 12
def CT (sh:Bool) (f:bT):Prop:=(0<=f.len∧f.len<=Ac sh)∧(0<=f.order∧f.order<=wE sh)∧(f.coefs.length:Int)=f.order∧(f.order=0->f.down=false)∧∀ c∈f.coefs,-dB f.fine<=c∧c<dB f.fine
instance {sh:Bool}{f:bT}:Decidable (CT sh f):=by unfold CT;infer_instance
theorem Iw (b:Bool):br prog D8 [B_ b]=some (A_ (if b then 4 else 3)):=by
 rw[aJ abc abj rfl]
 cases b<;>simp (disch:=omega)
def EX (b:Bool):br prog P0 [B_ b]=some (A_ (if b then 1 else 0)):=by
 rw[aJ aeb ac3 rfl]
 cases b<;>simp (disch:=omega)
def lY (sh:Bool):D_:=if sh then [A_ 1,A_ 4,A_ 3,A_ 1,A_ 7] else [A_ 2,A_ 6,A_ 5,A_ 3,A_ 12]
def aL.short (i:aL):Bool:=decide (i.seq=2)
def zp (i:aL):br prog Ch [.agg i.cells]=some (.agg (lY i.short)):=by
 rw[aJ Ye WQ rfl];unfold lY aL.short;by_cases h:i.seq=2
 .simp (disch:=omega) [↓ac,h]
 .simp (disch:=omega) [↓aa,h]
def aAL (m:Nat) (hm:m<=100000) (v:Int) (N:Nat):(Dn prog).call Cl [A_ v,.ptr 0 0] ⟨[(0,.cells [A_ m])],N⟩=some (B_ ((decide (v < -(m:Int)∨(m:Int)<=v))),⟨[(0,.cells [A_ m])],N⟩):=by
 rw[ba WU Xq rfl];by_cases h1:v < -(m:Int)
 .simp (disch:=omega) [↓ac,h1]
 .by_cases h2:(m:Int)<=v
  .simp (disch:=omega) [↓ac,↓aa,h1,h2]
  .simp (disch:=omega) [↓ac,↓aa,h1,h2]
def La (l:G_) (hl:l.length<=1000000) (s:Nat) (hs:1<=s∧s<=10):br prog GA [.d (.lst (aF l)),A_ s]=some (B_ ((decide (∀ c∈l,-((2 ^ (s-1):Nat):Int)<=c∧c<((2 ^ (s-1):Nat):Int))))):=by
 have hp:2 ^ (s-1)<=2 ^ 10:=aw o_ o_;have q2:=Tk (m:=s-1) o_;have c1:((s-1:Nat):Int)=(s:Int)-1:=o_;rw[c1]at q2;generalize 2 ^ (s-1)=P at *;have h1:=Aw (.fn Cl [] [.ptr 0 0]) (fun c=>decide (c < -(P:Int)∨(P:Int)<=c)) l o_ [(0,.cells [A_ P])] 1 rfl rfl fun v _=>by
  have:=aAL P o_ v 1
  simp_all
 rw[ahl]at h1;rw[aJ adh ad3 rfl];simp (disch:=omega) [-rX,q2,h1]
def acY (i:aL) (f:bT) (h:CT i.short f):br prog JI [.agg i.cells,.agg f.av]=some (B_ true):=by
 obtain⟨⟨l1,l2⟩,⟨o1,o2⟩,c1,d1,c2⟩:=h;have hs:=zp i;have hw:=Iw f.fine;have hof:wE i.short<=12:=by grind [wE]
 have hft:=La f.coefs o_ (if f.fine then 4 else 3) d_;have hh:((2 ^ ((if f.fine then 4 else 3)-1):Nat):Int)=dB f.fine:=by grind [dB]
 rw[hh,decide_eq_true c2]at hft;have hc:(((if f.fine=true then 4 else 3:Nat)):Int)=if f.fine=true then 4 else 3:=d_
 rw[hc]at hft;have hl:=iB (l:=f.coefs);generalize hW:(if f.fine=true then (4:Int) else 3)=W at *;simp only[aL.cells]at hs;have hdn:f.order > 0∨f.order=0∧f.down=false:=by
  grind
 rw[aJ YO Zz rfl];unfold Ac at l2;unfold wE at o2
 cases hsh:i.short with
 | true =>
  rw[hsh]at l2 o2 hs;simp only[lY,bf]at l2 o2 hs;rcases hdn with hdn | ⟨h0,hdn⟩
  .simp (disch:=omega) [↓ac,↓aa,hs,hw,hft]
  .simp (disch:=omega) [↓ac,↓aa,hs,hw,hft,hdn]
 | false =>
  rw[hsh]at l2 o2 hs;simp only[lY]at l2 o2 hs;rcases hdn with hdn | ⟨h0,hdn⟩
  .simp (disch:=omega) [↓ac,↓aa,hs,hw,hft]
  .simp (disch:=omega) [↓ac,↓aa,hs,hw,hft,hdn]
def abb (F:AV) (P:bT->Bool) (l:AA_) (hl:l.length<=1000000000) (h:ak) (N0:Nat) (hF:firm (share F)=F) (hc:∀ f∈l,∀ N,N0<=N->cf (Dn prog) F [.agg f.av] ⟨h,N⟩=some (B_ (P f),⟨h,N+1⟩)):∀ (r:AA_) (i N:Nat),l.drop i=r->N0<=N->
  (r.any P=true∧∃ k M:Nat,N<=M∧(Dn prog).code (.loop fw) ⟨[(0,.d (.lst (ej l))),(1,F),(7,A_ l.length),(8,A_ i)],⟨h,N⟩⟩=some (.ret,⟨[(4,A_ k)],⟨h,M⟩⟩))∨
  (r.any P=false∧∃ M,N<=M∧(Dn prog).code (.loop fw) ⟨[(0,.d (.lst (ej l))),(1,F),(7,A_ l.length),(8,A_ i)],⟨h,N⟩⟩=some (.exit 0,⟨[],⟨h,M⟩⟩)):=by
 intro r
 induction r with
 | nil =>
  intro i N hd hN;have hi:=bb hd;refine .inr ⟨rfl,N,ai _,?_⟩;rw[ah gR];simp (disch:=omega) [↓aa]
 | cons v r ih =>
  intro i N hd hN;have hg:=An hd;have hlt:=bv hd;have hv:=hc v (by rw[<-aT i l,hd];simp) N hN;have h5:=ih (i+1) (N+1) (bn hd) (by omega)
  cases hp:P v with
  | true =>
   rw[hp]at hv;refine .inl ⟨u_,i,N+1,o_,?_⟩;rw[ah gR];simp (disch:=omega) [↓ac,hg,hF,hv]
  | false =>
   rw[hp]at hv;rw[eM,hp,na];rcases h5 with ⟨e1,k,M,e3,e2⟩ | ⟨e1,M,e3,e2⟩
   .refine .inl ⟨e1,k,M,o_,?_⟩;rw[ah gR,<-e2];simp (disch:=omega) [↓ac,hg,hF,hv]
   .refine .inr ⟨e1,M,o_,?_⟩;rw[ah gR,<-e2];simp (disch:=omega) [↓ac,hg,hF,hv]
def EE (F:AV) (P:bT->Bool) (l:AA_) (hl:l.length<=1000000000) (h:ak) (N:Nat) (hF:firm (share F)=F) (hF2:firm F=F) (hc:∀ f∈l,∀ M,N<=M->cf (Dn prog) F [.agg f.av] ⟨h,M⟩=some (B_ (P f),⟨h,M+1⟩)) :
  ∃ M,N<=M∧(Dn prog).call fy [.d (.lst (ej l)),F] ⟨h,N⟩=some (B_ (l.any P),⟨h,M⟩):=by
 have h1:=abb F P l hl h N hF hc l 0 N rfl (ai _);have c0:((0:Nat):Int)=0:=rfl;rw[c0]at h1;have h2:∃ (k:Int) (M:Nat),N<=M∧(0<=k↔l.any P=true)∧(Dn prog).call uF [.d (.lst (ej l)),F] ⟨h,N⟩=some (A_ k,⟨h,M⟩):=by
  rcases h1 with ⟨e1,k,M,e3,e2⟩ | ⟨e1,M,e3,e2⟩
  .refine⟨k,M,e3,⟨fun _=>e1,fun _=>by omega⟩,?_⟩;rw[ba uL uE rfl];simp (disch:=omega) [e2]
  .refine⟨-1,M,e3,⟨fun h=>by omega,fun h=>by simp_all⟩,?_⟩;rw[ba uL uE rfl];simp (disch:=omega) [e2]
 obtain⟨k,M,e3,e1,e2⟩:=h2;refine⟨M,e3,?_⟩;rw[ba C0 C5 rfl]
 cases hp:l.any P with
 | true =>
  have:=e1.2 hp;simp (disch:=omega) [↓ac,hF2,e2]
 | false =>
  have:¬ 0<=k:=fun h=>by simp_all
  simp (disch:=omega) [↓aa,hF2,e2]
def ade (lo hi v:Int) (hlo:-100<=lo∧lo<=0) (hhi:0<=hi∧hi<=100) (X:Obj) (N:Nat):(Dn prog).call vQ [A_ v,.ptr 1 0,.ptr 2 0] ⟨[(0,X),(1,.cells [A_ lo]),(2,.cells [A_ hi])],N⟩=some (B_ (decide (v<lo∨hi<v)),⟨[(0,X),(1,.cells [A_ lo]),(2,.cells [A_ hi])],N⟩):=by
 rw[ba XT YW rfl];by_cases h1:v<lo
 .simp (disch:=omega) [↓ac,h1]
 .by_cases h2:hi<v
  .simp (disch:=omega) [↓ac,↓aa,h1,h2]
  .simp (disch:=omega) [↓ac,↓aa,h1,h2]
def ami (X:Obj) (l:G_) (hl:l.length<=1000000) (fine:Bool):(Dn prog).call mJ [.d (.lst (aF l)),.fn vQ [] [.ptr 1 0,.ptr 2 0]] ⟨[(0,X),(1,.cells [A_ (-dB fine)]),(2,.cells [A_ (dB fine-1)])],3⟩ =
  some (B_ (!decide (∀ c∈l,-dB fine<=c∧c<dB fine)),⟨[(0,X),(1,.cells [A_ (-dB fine)]),(2,.cells [A_ (dB fine-1)])],3⟩):=by
 have hh:4<=dB fine∧dB fine<=8:=by grind [dB]
 have h1:=Aw (.fn vQ [] [.ptr 1 0,.ptr 2 0]) (fun c=>decide (c < -dB fine∨dB fine-1<c)) l o_ [(0,X),(1,.cells [A_ (-dB fine)]),(2,.cells [A_ (dB fine-1)])] 3 rfl rfl fun v _=>by
  have:=ade (-dB fine) (dB fine-1) v o_ o_ X 3
  simp_all
 have e:(fun c:Int=>decide (c < -dB fine∨dB fine-1<c))=fun c=>decide (c < -dB fine∨dB fine<=c):=by
  grind
 rw[e,ahl]at h1;exact h1
def aia (sh:Bool) (f:bT) (hl:f.coefs.length<=1000000):br prog Px [.agg f.av,B_ sh]=some (B_ (decide (CT sh f))):=by
 rw[aJ adA adi rfl];have hll:=iB (l:=f.coefs);have hls:Ac sh=if sh then 15 else 63:=rfl
 have hos:wE sh=if sh then 7 else 12:=rfl
 by_cases a1:0<=f.len∧f.len<=Ac sh
 .by_cases a2:0<=f.order∧f.order<=wE sh
  .by_cases a3:(f.coefs.length:Int)=f.order
   .by_cases a4:f.order=0∧f.down=true
    .rw[decide_eq_false (fun h=>by have:=h.2.2.2.1 a4.1;simp_all)];obtain⟨a4,a5⟩:=a4
     cases sh<;>simp only[Ac,wE,bf,ao,bh]at a1 a2<;>simp (disch:=omega) [↓ac,↓aa,a5]
    .have hc:=ami (.cells f.av) f.coefs hl f.fine;have hd:decide (CT sh f)=decide (∀ c∈f.coefs,-dB f.fine<=c∧c<dB f.fine):=by
      rw[decide_eq_decide];refine⟨fun h=>h.2.2.2.2,fun h=>⟨a1,a2,a3,fun h0=>?_,h⟩⟩
      simp_all
     rw[hd];generalize decide (∀ c∈f.coefs,-dB f.fine<=c∧c<dB f.fine)=B at *;have h4:dB false=4:=rfl;have h8:dB true=8:=rfl;by_cases h0:f.order=0
     .have hdn:f.down=false:=by
       simp_all
      cases hfn:f.fine<;>simp only[hfn,h4,h8,Int.reduceNeg,Int.reduceSub]at hc<;>cases sh<;>simp only[Ac,wE,bf,ao,bh]at a1 a2<;>simp (disch:=omega) [↓ac,↓aa,hdn,hfn,hc]
     .cases hfn:f.fine<;>simp only[hfn,h4,h8,Int.reduceNeg,Int.reduceSub]at hc<;>cases sh<;>simp only[Ac,wE,bf,ao,bh]at a1 a2<;>simp (disch:=omega) [↓ac,↓aa,hfn,hc]
   .rw[decide_eq_false (fun h=>a3 h.2.2.1)]
    cases sh<;>simp only[Ac,wE,bf,ao,bh]at a1 a2<;>simp (disch:=omega) [↓ac,↓aa]
  .rw[decide_eq_false (fun h=>a2 h.2.1)];by_cases b1:f.order<0
   .cases sh<;>simp only[Ac,wE,bf,ao,bh]at a1 a2<;>simp (disch:=omega) [↓ac,↓aa]
   .cases sh<;>simp only[Ac,wE,bf,ao,bh]at a1 a2<;>simp (disch:=omega) [↓ac,↓aa]
 .rw[decide_eq_false (fun h=>a1 h.1)];by_cases b1:f.len<0
  .cases sh<;>simp only[Ac,bf,ao,bh]at a1<;>simp (disch:=omega) [↓ac]
  .cases sh<;>simp only[Ac,bf,ao,bh]at a1<;>simp (disch:=omega) [↓ac,↓aa]
def Lt (H:ak) (N:Nat):Prop:=∀ p∈H,p.1<N
def uU {H:ak}{N:Nat}{o:Obj}(h:Lt H N):put H N o=H++[(N,o)]:=by
 induction H with
 | nil=>rfl
 | cons p r ih =>
  obtain⟨k,v⟩:=p;have h1:=h (k,v) (.head _);rw[wU,aa o_,aa o_,ih (fun p hp=>h p (.tail _ hp)),aQ]
def HG {H:ak}{N:Nat}{o o':Obj}(h:Lt H N):put (H++[(N,o)]) N o'=H++[(N,o')]:=by
 induction H with
 | nil=>simp_all
 | cons p r ih =>
  obtain⟨k,v⟩:=p;have h1:=h (k,v) (.head _);rw[aQ,wU,aa o_,aa o_,ih (fun p hp=>h p (.tail _ hp)),aQ]
def xi {H:ak}{N:Nat}{o:Obj}(h:Lt H N):get (H++[(N,o)]) N=some o:=by
 induction H with
 | nil=>simp_all
 | cons p r ih =>
  obtain⟨k,v⟩:=p;have h1:=h (k,v) (.head _);rw[aQ,iW,aa o_,ih (fun p hp=>h p (.tail _ hp))]
def AB {H:ak}{N k:Nat}{o o':Obj}(h:get H k=some o'):get (H++[(N,o)]) k=some o':=by
 induction H<;>grind [AM,iW]
def LO {H:ak}{N:Nat}{o:Obj}(h:Lt H N):del (H++[(N,o)]) N=H:=by
 induction H with
 | nil=>simp_all
 | cons p r ih =>
  obtain⟨k,v⟩:=p;have h1:=h (k,v) (.head _);rw[aQ,oh,aa o_,ih (fun p hp=>h p (.tail _ hp))]
def Kn {H:ak}{N M:Nat}(h:Lt H N) (hm:N<=M):Lt H M:=fun p hp=>aZ (h p hp) hm
def Ma {H:ak}{N:Nat}{o:Obj}(h:Lt H N):Lt (H++[(N,o)]) (N+1):=by
 intro p hp;rcases be.1 hp with h1 | h1
 .have:=h p h1;omega
 simp_all
@[simp] def aEE (a b:Bool):aex true (B_ a) (B_ b)=some (.bool (a != b)):=by cases a<;>cases b<;>rfl
def aat (sh:Bool) (f0 f:bT):Bool:=!decide (CT sh f) || f.fine != f0.fine
def aop (sh:Bool) (f0:bT) (l:AA_) (f:bT) (hf:f.coefs.length<=1000000) (H:ak) (p q M:Nat) (hp:get H p=some (.cells [B_ sh])) (hq:get H q=some (.cells [.d (.lst (ej (f0::l)))])) (hl:(f0::l).length<=1000000) (hM:Lt H M) :
  (Dn prog).call oe [.agg f.av,.ptr p 0,.ptr q 0] ⟨H,M⟩=some (B_ (aat sh f0 f),⟨H,M+1⟩):=by
 have e1:=fun o=>uU (o:=o) hM
 have e2:=fun o=>xi (o:=o) hM
 have e3:=fun o=>AB (N:=M) (o:=o) hp
 have e4:=fun o=>AB (N:=M) (o:=o) hq
 have e5:=fun o=>LO (o:=o) hM
 have e6:=aia sh f hf;have hg:=An (l:=f0::l) (i:=0) (s:=f0) (r:=l) rfl;unfold aat;rw[ba VV Wa rfl];simp only[bT.av]at e6⊢
 cases hB:decide (CT sh f) with
 | false =>
  rw[hB]at e6;simp (disch:=omega) [e1,e2,e3,e5,e6]
 | true =>
  rw[hB]at e6
  cases hf1:f.fine<;>cases hf2:f0.fine<;>rw[hf1]at e6<;>rw[hf2]at hg<;>
   simp (disch:=omega) [e1,e2,e3,e4,e5,e6,hg]
structure cu where
 gain:Int
 info:aL
 sects:H_
 steps:J_
 tns:N_
 lines:G_
abbrev AG_:=List cu
abbrev cu.av (c:cu):D_:=[A_ c.gain,.d (.int .u8 c.info.seq),.d (.int .u8 c.info.shape),A_ c.info.max,.d (.lst (aF c.info.groups)),.d (.lst (bD c.sects)),.d (.lst (cS c.steps)),.d (.lst (cK c.tns)),.d (.lst (aF c.lines))]
structure cu.Fit (c:cu):Prop where
 gain:i64 c.gain
 info:c.info.Fit
 sects:asb c.sects
 secI:∀ l∈c.sects,∀ s∈l,i64 s.book∧i64 s.len
 steps:c.steps.length<=1000∧∀ l∈c.steps,l.length<=1000
 stepI:∀ l∈c.steps,∀ n∈l,i64 n
 tns:c.tns.length<=1000∧∀ l∈c.tns,l.length<=1000∧∀ f∈l,f.coefs.length<=1000
 fltI:∀ l∈c.tns,∀ f∈l,(i64 f.len∧i64 f.order)∧∀ x∈f.coefs,i64 x
 lines:c.lines.length<=100000
 lineI:∀ n∈c.lines,i64 n
def qq (sh:Bool):Nat:=if sh then 1 else 3
def t9 (sh:Bool) (l:AA_):Prop:=l.length<=qq sh∧∀ f0∈l.head?,∀ f∈l,CT sh f∧f.fine=f0.fine
abbrev Td (i:aL) (t:N_):Prop:=t.length=i.many∧∀ l∈t,t9 i.short l
def avr {sh:Bool}{f0:bT}{l:AA_}:l.any (aat sh f0)=false↔∀ f∈l,CT sh f∧f.fine=f0.fine:=by
 grind [aat]
def aar (sh:Bool):AA_->Bool
 | []=>false
 | f0::r=>(f0::r).any (aat sh f0)
theorem afe {sh:Bool}{l:AA_}:t9 sh l↔l.length<=qq sh∧aar sh l=false:=by
 unfold t9
 cases l with
 | nil=>simp[aar]
 | cons f0 r0 =>
  simp only[aar,avr]
  simp_all
instance {sh:Bool}{l:AA_}:Decidable (t9 sh l):=decidable_of_iff _ afe.symm
def X7 (sh:Bool) (full:N_) (hl:full.length<=1000) (hl2:∀ l∈full,l.length<=1000∧∀ f∈l,f.coefs.length<=1000):∀ (r:N_) (i N:Nat) (H:ak),full.drop i=r->get H 1=some (.cells [B_ sh])->Lt H N->2<=N->
  ((∀ l∈r,t9 sh l)∧∃ H2 M,(Dn prog).code (.loop nc) ⟨[(5,.ptr 1 0),(6,A_ (qq sh)),(20,.d (.lst (cK full))),(21,A_ full.length),(22,A_ i)],⟨H,N⟩⟩=some (.exit 0,⟨[],⟨H2,M⟩⟩))∨
  ((¬ ∀ l∈r,t9 sh l)∧∃ H2 M,(Dn prog).code (.loop nc) ⟨[(5,.ptr 1 0),(6,A_ (qq sh)),(20,.d (.lst (cK full))),(21,A_ full.length),(22,A_ i)],⟨H,N⟩⟩=some (.ret,⟨[(4,B_ false)],⟨H2,M⟩⟩)):=by
 intro r
 induction r with
 | nil =>
  intro i N H hd hH hL hN;have hi:=bb hd;refine .inl ⟨s_,H,N,?_⟩;rw[ah ng];simp (disch:=omega) [↓aa]
 | cons l r ih =>
  intro i N H hd hH hL hN;have hg:=tj hd;have hlt:=bv hd;obtain⟨hll,hlc⟩:=hl2 l (by rw[<-aT i full,hd];simp);have hm:qq sh<=3:=by grind [qq]
  have e1:=fun o=>uU (o:=o) hL
  have e2:=fun o=>xi (o:=o) hL
  have e3:=fun o=>AB (N:=N) (o:=o) hH
  have e4:=fun o o'=>HG (o:=o) (o':=o') hL
  have c1:((i+1:Nat):Int)=(i:Int)+1:=rfl;by_cases h1:l.length<=qq sh
  .have hcf:∃ M,N+1<=M∧(Dn prog).call fy [.d (.lst (ej l)),.fn oe [] [.ptr 1 0,.ptr N 0]] ⟨H++[(N,.cells [.d (.lst (ej l))])],N+1⟩=some (B_ (aar sh l),⟨H++[(N,.cells [.d (.lst (ej l))])],M⟩):=by
    cases l with
    | nil =>
     exact EE (.fn oe [] [.ptr 1 0,.ptr N 0]) (fun _=>false) [] s_ _ (N+1) rfl rfl fun f hf=>by simp at hf
    | cons f0 r0 =>
     refine EE (.fn oe [] [.ptr 1 0,.ptr N 0]) (aat sh f0) (f0::r0) o_ _ (N+1) rfl rfl fun f hf M hM=>?_
     have:=aop sh f0 r0 f d_ (H++[(N,.cells [.d (.lst (ej (f0::r0)))])]) 1 N M (e3 _) (e2 _) o_ (Kn (Ma hL) hM)
     simp_all
   obtain⟨M,hM,e5⟩:=hcf;have hW:aar sh l=false↔t9 sh l:=by grind [afe]
   generalize aar sh l=B at *
   cases B with
   | true =>
    refine .inr ⟨fun h=>?_,H++[(N,.cells [.d (.lst (ej l))])],M,?_⟩
    .simp_all
    .rw[ah ng];simp (disch:=omega) [↓ac,↓aa,hg,e1,e2,e4,e5]
   | false =>
    have h5:=ih (i+1) M (H++[(N,.cells [.d (.lst (ej l))])]) (bn hd) (e3 _) (Kn (Ma hL) hM) o_;rcases h5 with ⟨f1,H2,M2,f2⟩ | ⟨f1,H2,M2,f2⟩
    .refine .inl ⟨fun q hq=>?_,H2,M2,?_⟩
     .grind
     .rw[ah ng,<-f2];simp (disch:=omega) [↓ac,↓aa,hg,e1,e2,e4,e5]
    .refine .inr ⟨fun h=>f1 fun q hq=>h q (.tail _ hq),H2,M2,?_⟩;rw[ah ng,<-f2];simp (disch:=omega) [↓ac,↓aa,hg,e1,e2,e4,e5]
  .refine .inr ⟨fun h=>h1 (h l (.head _)).1,H++[(N,.cells [.d (.lst (ej l))])],N+1,?_⟩;rw[ah ng];simp (disch:=omega) [↓ac,hg,e1,e2,e4]
def agx (c:cu) (hc:c.Fit) (w:Nat) (hw:w<=8):br prog Dm [.agg c.av,A_ w]=some (B_ (decide (c.tns.length=w∧∀ l∈c.tns,t9 c.info.short l))):=by
 have hl:=hc.tns.1;have h0:=X7 c.info.short c.tns hc.tns.1 hc.tns.2 c.tns 0 2 [(1,.cells [B_ c.info.short])] rfl s_ (fun p hp=>by simp_all) o_;have c0:((0:Nat):Int)=0:=rfl;rw[c0]at h0;have m1:((1:Nat):Int)=1:=rfl;have m3:((3:Nat):Int)=3:=rfl;rw[aJ aaD aa1 rfl];by_cases h1:c.tns.length=w
 .have hsh:c.info.short=decide (c.info.seq=2):=rfl;have e:decide (c.tns.length=w∧∀ l∈c.tns,t9 c.info.short l)=decide (∀ l∈c.tns,t9 c.info.short l):=by simp[h1]
  rw[e];rcases h0 with ⟨f1,H2,M2,f2⟩ | ⟨f1,H2,M2,f2⟩
  .rw[decide_eq_true f1];by_cases hs:c.info.seq=2
   .rw[decide_eq_true hs]at hsh;rw[hsh]at f2;simp only[qq,bf,m1]at f2;simp (disch:=omega) [↓ac,↓aa,f2]
   .rw[decide_eq_false hs]at hsh;rw[hsh]at f2;simp only[qq,ao,bh,m3]at f2;simp (disch:=omega) [↓ac,↓aa,f2]
  .rw[decide_eq_false f1];by_cases hs:c.info.seq=2
   .rw[decide_eq_true hs]at hsh;rw[hsh]at f2;simp only[qq,bf,m1]at f2;simp (disch:=omega) [↓ac,↓aa,f2]
   .rw[decide_eq_false hs]at hsh;rw[hsh]at f2;simp only[qq,ao,bh,m3]at f2;simp (disch:=omega) [↓ac,↓aa,f2]
 .rw[decide_eq_false (fun h=>h1 h.1)];by_cases hs:c.info.seq=2
  .simp (disch:=omega) [↓ac,↓aa]
  .simp (disch:=omega) [↓ac,↓aa]
def Gy:Int->P_->Option Int
 | a,[]=>some a
 | a,s::r=>if (1<=s.len∧s.len<=40)∧MM s.book then Gy (a+s.len) r else none
def aaM:∀ {l:P_}{a v:Int},Gy a l=some v->a+l.length<=v∧v<=a+40*l.length
 | [],a,v,h=>by simp only[Gy]at h;injection h with h;simp;omega
 | s::r,a,v,h=>by
  rw[Gy]at h;split at h
  .rename_i h1;have:=aaM h;simp only[aq];omega
  .exact absurd h (by simp)
def So {m:Int}(hm:m<=40):∀ {l:P_}{a:Int},0<=a->(Gy a l=some m↔fitsS (m-a) l)
 | [],a,h=>by
  simp only[Gy,fitsS,ae];omega
 | s::r,a,h=>by
  rw[Gy,fitsS];by_cases h1:(1<=s.len∧s.len<=40)∧MM s.book
  .rw[ac h1,So hm o_];have e:m-(a+s.len)=m-a-s.len:=o_;rw[e];constructor
   .intro h2;refine⟨⟨⟨h1.1.1,?_⟩,h1.2⟩,h2⟩;have:=(So (l:=r) (a:=a+s.len) hm o_).2 (by rw[e];exact h2);have:=aaM this;omega
   .intro h2;exact h2.2
  .rw[aa h1];constructor
   .intro h2;exact absurd h2 (by simp)
   .intro h2;obtain⟨⟨⟨a1,a2⟩,a3⟩,a4⟩:=h2;exact absurd ⟨⟨a1,o_⟩,a3⟩ h1
def Wb (full:P_) (hl:full.length<=1000) (X:Obj) (x4:AV) (x17:AV) (y18 y19:D):∀ (r:P_) (i:Nat) (a:Int) (N:Nat),full.drop i=r->0<=a∧a<=40*i->1<=N->
  ∃ M,N<=M∧(Dn prog).code (.loop pP) ⟨[(1,.ptr 0 0),(4,x4),(5,A_ a),(17,x17),(18,.d y18),(19,.d y19),(23,.d (.lst (gI full))),(24,A_ full.length),(25,A_ i)],⟨[(0,X)],N⟩⟩ =
  match Gy a r with
  | some v=>some (.exit 2,⟨[(1,.ptr 0 0),(4,x4),(5,A_ v),(17,x17),(18,.d y18),(19,.d y19)],⟨[(0,X)],M⟩⟩)
  | none=>some (.ret,⟨[(2,B_ false)],⟨[],M⟩⟩):=by
 intro r
 induction r with
 | nil =>
  intro i a N h h0 hN;have hi:=bb h;refine⟨N,ai _,?_⟩;rw[ah wJ,Gy];simp (maxSteps:=300000) (disch:=omega) [↓ac,↓aa]
 | cons s r ih =>
  intro i a N h h0 hN;have hg:=wZ h;have hlt:=bv h;have hN0:N≠0:=o_;by_cases hr:(1<=s.len∧s.len<=40)∧MM s.book
  .have hr1:=hr.1;obtain⟨M,hM,e⟩:=ih (i+1) (a+s.len) (N+1) (bn h) o_ o_;refine⟨M,o_,?_⟩;have c1:((i+1:Nat):Int)=(i:Int)+1:=rfl;rw[c1]at e;rw[ah wJ,Gy,ac hr,<-e];obtain⟨⟨r1,r2⟩,r3,r4 | r4⟩:=hr
   .simp (maxSteps:=300000) (disch:=omega) [↓ac,↓aa,hg,hN0]
   .simp (maxSteps:=300000) (disch:=omega) [↓ac,↓aa,hg,hN0]
  .refine⟨N+1,o_,?_⟩;rw[ah wJ,Gy,aa hr];by_cases b1:s.len<1
   .simp (maxSteps:=300000) (disch:=omega) [↓ac,↓aa,hg,hN0]
   .by_cases b2:40<s.len
    .simp (maxSteps:=300000) (disch:=omega) [↓ac,↓aa,hg,hN0]
    .by_cases b3:s.book<0
     .simp (maxSteps:=300000) (disch:=omega) [↓ac,↓aa,hg,hN0]
     .have b4:11<s.book∧s.book≠13:=by
       unfold MM at hr;omega
      obtain⟨b4,b5⟩:=b4;simp (maxSteps:=300000) (disch:=omega) [↓ac,↓aa,hg,hN0]
def avL:∀ x∈Hj,qO x.1 x.2<=40:=e_
def jK {i:aL}(hm:i.may 11):0<=i.max∧i.max<=40:=by
 have h1:=hm.2.2.1;have h2:=hm.2.2.2.1;have h3:=avL _ (fp (r:=11) (s:=decide (i.seq=2)) o_);simp only[]at h3;omega
def Vu (c:cu) (hm:0<=c.info.max∧c.info.max<=40) (hl:c.sects.length<=1000) (hl2:∀ l∈c.sects,l.length<=1000):∀ (g:H_) (j:Nat) (N:Nat),c.sects.drop j=g->1<=N->
  ∃ H M,(Dn prog).code (.loop qc) ⟨[(1,.ptr 0 0),(17,.d (.lst (bD c.sects))),(18,A_ c.sects.length),(19,A_ j)],⟨[(0,.cells c.av)],N⟩⟩ =
  if fq c.info.max g then some (.exit 0,⟨[],⟨H,M⟩⟩) else some (.ret,⟨[(2,B_ false)],⟨H,M⟩⟩):=by
 simp only[cu.av];intro g
 induction g with
 | nil =>
  intro j N h hN;have hi:=bb h;refine⟨[],N,?_⟩;rw[ah qj,ac (show fq c.info.max [] from fun _ h=>by simp at h)];simp (maxSteps:=300000) (disch:=omega) [↓ac,↓aa]
 | cons l r ih =>
  intro j N h hN;have hg:=kH h;have hlt:=bv h;have hll:l.length<=1000:=hl2 l (by rw[<-aT j c.sects,h];simp);obtain⟨M,hM,e⟩:=Wb l hll (.cells c.av) (.d (.lst (gI l))) (.d (.lst (bD c.sects))) (.int .i64 c.sects.length) (.int .i64 j) l 0 0 N rfl o_ hN;have c0:((0:Nat):Int)=0:=rfl;rw[c0]at e;simp only[cu.av]at e;have hiff:=So (m:=c.info.max) hm.2 (l:=l) (a:=0) o_;rw[Int.sub_zero]at hiff
  cases hrm:Gy 0 l with
  | none =>
   rw[hrm]at e hiff;refine⟨[],M,?_⟩;have hn:¬ fq c.info.max (l::r):=fun h=>absurd (hiff.2 (h l (.head _))) (by simp)
   rw[ah qj,aa hn];simp (maxSteps:=300000) (disch:=omega) [↓ac,↓aa,hg,e]
  | some v =>
   rw[hrm]at e hiff;have hv:=aaM hrm;by_cases h9:v=c.info.max
   .subst h9;have hf:=hiff.1 rfl;obtain⟨H2,M2,e2⟩:=ih (j+1) M (bn h) o_;refine⟨H2,M2,?_⟩;have hx:fq c.info.max (l::r)↔fq c.info.max r:=by simp[fq,hf]
    have c1:((j+1:Nat):Int)=(j:Int)+1:=rfl;rw[c1]at e2;rw[ah qj,atU hx,<-e2];simp (maxSteps:=300000) (disch:=omega) [↓ac,↓aa,hg,e]
   .refine⟨[],M,?_⟩;have hn:¬ fq c.info.max (l::r):=fun h=>by
     have:=hiff.2 (h l (.head _));injection this with this;exact h9 this
    rw[ah qj,aa hn];simp (maxSteps:=300000) (disch:=omega) [↓ac,↓aa,hg,e]
instance {m:Int}{g:H_}:Decidable (fq m g):=by unfold fq;infer_instance
def adX (c:cu) (hc:c.Fit) (hm:c.info.may 11):br prog BK [.agg c.av]=some (B_ (decide (jF c.info c.sects))):=by
 obtain⟨H,M,e⟩:=Vu c (jK hm) hc.sects.1 hc.sects.2 c.sects 0 1 rfl o_;have c0:((0:Nat):Int)=0:=rfl;rw[c0]at e;simp only[cu.av]at e⊢;have hl1:=hc.sects.1;have hl2:=hc.info.len;rw[aJ Xu Xz rfl];by_cases h1:c.sects.length=c.info.groups.length
 .by_cases h2:fq c.info.max c.sects
  .rw[decide_eq_true ⟨h1,h2⟩];rw[ac h2]at e;simp (maxSteps:=300000) (disch:=omega) [↓ac,↓aa,e]
  .rw[decide_eq_false (fun h=>h2 h.2)];rw[aa h2]at e;simp (maxSteps:=300000) (disch:=omega) [↓ac,↓aa,e]
 .rw[decide_eq_false (fun h=>h1 h.1)];simp (maxSteps:=300000) (disch:=omega) [↓ac,↓aa]
abbrev rR:=@Nat.add_right_cancel_iff
def Kk (w n:Int) (hw:-1000<=w∧w<=1000) (hn:-1000<=n∧n<=1000):br prog Vg [A_ w,A_ n]=some (B_ (decide (w-60<=n∧n<=w+60))):=by
 rw[aJ aiy aio rfl];by_cases h1:w-60<=n
 .by_cases h2:n<=w+60
  .rw[decide_eq_true ⟨h1,h2⟩];simp (disch:=omega) [↓ac]
  .rw[decide_eq_false (fun h=>h2 h.2)];simp (disch:=omega) [↓ac,↓aa]
 .rw[decide_eq_false (fun h=>h1 h.1)];simp (disch:=omega) [↓aa]
def afj (full:P_) (hl:full.length<=1000):∀ (r:P_) (i b N:Nat) (lf:Int) (k:Int),full.drop i=r->fitsS lf r->lf<=1000->(aK r)[b]?=some k->
  ∃ M,(Dn prog).code (.loop xo) ⟨[(2,A_ b),(25,.d (.lst (gI full))),(26,A_ full.length),(27,A_ i)],⟨[],N⟩⟩ =
  some (.ret,⟨[(6,A_ k),(7,A_ 0)],⟨[],M⟩⟩):=by
 intro r
 induction r with
 | nil=>grind [aK]
 | cons s r ih =>
  intro i b N lf k h hf h0 hk;have hg:=wZ h;have hlt:=bv h;obtain⟨h1,h2⟩:=hf;have eb:aK (s::r)=List.replicate s.len.toNat s.book++aK r:=by grind [aK]
  rw[eb]at hk;by_cases hb:(b:Int)<s.len
  .rw[b9 u_]at hk;have hk2:k=s.book:=by
    simp_all
   subst hk2;refine⟨N+1,?_⟩;rw[ah MK];simp (disch:=omega) [↓ac,↓aa,hg]
  .rw[cw u_]at hk;simp only[bi]at hk;obtain⟨M,e⟩:=ih (i+1) (b-s.len.toNat) (N+1) (lf-s.len) k (bn h) h2 o_ hk;refine⟨M,?_⟩;have c1:((i+1:Nat):Int)=(i:Int)+1:=rfl;have c2:((b-s.len.toNat:Nat):Int)=(b:Int)-s.len:=o_;have hbl:b<100000000:=by
    grind [ta]
   rw[c1,c2]at e;rw[ah MK,<-e];simp (disch:=omega) [↓ac,↓aa,hg]
def abT (g:H_) (hl:g.length<=1000) (hl2:∀ l∈g,l.length<=1000) (m:Int) (hm:m<=1000) (hf:fq m g) (j b:Nat) (l:P_) (r:H_) (hd:g.drop j=l::r) (k:Int) (hk:(aK l)[b]?=some k) :
  br prog Vc [.d (.lst (bD g)),A_ j,A_ b]=some (.tup [A_ k,A_ 0]):=by
 have hg:=kH hd;have hlt:=bv hd;have hmem:l∈g:=by rw[<-aT j g,hd];simp
 have hbl:b<100000000:=by
  have h6:=hf l hmem;rcases Int.le_total 0 m with h | h
  .grind [ta]
  .rcases Ih h6 with h7 | h7
   .have:l=[]:=by cases l<;>grind
    grind [aK]
   grind [aK]
 obtain⟨M,e⟩:=afj l (hl2 l hmem) l 0 b 0 m k rfl (hf l hmem) hm hk;have c0:((0:Nat):Int)=0:=rfl;rw[c0]at e;rw[aJ ah1 ajA rfl];simp (disch:=omega) [↓aa,hg,e]
def zg (z:Int):Int:=if 0<=z then z else 0
def aag {k n:Int}{r t:G_}{w z:Int}(h:k=0->n≠0) (h1:k≠0->¬ lO k n w z):dJ (k::r) (n::t) w z=none:=by
 grind [dJ]
def aed (c:cu) (hl:c.sects.length<=1000) (hl2:∀ l∈c.sects,l.length<=1000) (m:Int) (hm:0<=m∧m<=1000) (hf:fq m c.sects) (x23:AV) (y24 y25:D) (j:Nat) (l:P_) (rr:H_) (hd:c.sects.drop j=l::rr) (t:G_) (ht:t.length<=1000) (hbl:(aK l).length=t.length) (htI:∀ n∈t,i64 n) (N:Nat):∀ (r:G_) (b:Nat) (w z:Int),t.drop b=r->um w->um z->
  ∃ H,(Dn prog).code (.loop vT) ⟨[(1,.ptr 0 0),(3,A_ w),(4,A_ (zg z)),(5,B_ (decide (0<=z))),(6,A_ j),(23,x23),(24,.d y24),(25,.d y25),(36,.d (.lst (aF t))),(37,A_ t.length),(38,A_ b)],⟨[(0,.cells c.av)],N⟩⟩ =
  match dJ ((aK l).drop b) r w z with
  | some (w,z)=>some (.exit 2,⟨[(1,.ptr 0 0),(3,A_ w),(4,A_ (zg z)),(5,B_ (decide (0<=z))),(23,x23),(24,.d y24),(25,.d y25)],⟨[(0,.cells c.av)],N⟩⟩)
  | none=>some (.ret,⟨[(2,B_ false)],⟨H,N⟩⟩):=by
 simp only[cu.av];intro r
 induction r with
 | nil =>
  intro b w z h hw hz;have hi:=bb h;refine⟨[],?_⟩;rw[ah ki,cD o_,dJ];simp (disch:=omega) [↓aa]
 | cons n r ih =>
  intro b w z h hw hz;have hg:=xC h;have hlt:=bv h;have hnI:=htI n (by rw[<-aT b t,h];simp);have hblt:b<(aK l).length:=o_;have hkk:=ee hblt;obtain⟨k,hk⟩:∃ k,k=(aK l)[b]:=⟨_,rfl⟩
  have hk?:(aK l)[b]?=some k:=u_;have hmem:l∈c.sects:=by rw[<-aT j c.sects,hd];simp
  have hkr:=O9 (hf l hmem) k u_;rw[<-hk]at hkk;have hB:=abT c.sects hl hl2 m hm.2 hf j b l rr hd k hk?;have c1:((b+1:Nat):Int)=(b:Int)+1:=rfl;rw[hkk];by_cases k0:k=0
  .by_cases n0:n=0
   .obtain⟨H,e⟩:=ih (b+1) w z (bn h) hw hz;refine⟨H,?_⟩;rw[c1]at e;have eR:dJ (k::(aK l).drop (b+1)) (n::r) w z=dJ ((aK l).drop (b+1)) r w z:=by grind [dJ]
    rw[ah ki,eR,<-e];subst k0 n0;simp (disch:=omega) [↓ac,↓aa,hg,hB]
   .refine⟨[],?_⟩;rw[ah ki,aag (fun _=>n0) (fun h=>absurd k0 h)];subst k0;simp (disch:=omega) [↓ac,↓aa,hg,hB]
  .by_cases k13:k=13
   .by_cases ho:lO k n w z
    .have hn5:=Sg ho;obtain⟨H,e⟩:=ih (b+1) w n (bn h) hw hn5;refine⟨H,?_⟩;unfold lO at ho;rw[ac k13]at ho;have hnn:zg n=n:=by grind [zg]
     rw[c1,hnn,decide_eq_true (show 0<=n by omega)]at e;have eR:dJ (k::(aK l).drop (b+1)) (n::r) w z=dJ ((aK l).drop (b+1)) r w n:=by grind [dJ]
     rw[ah ki,eR,<-e];subst k13;by_cases hz0:0<=z
     .have hzn:zg z=z:=by grind [zg]
      have hnr:=Kk z n o_ o_;rw[decide_eq_true (show z-60<=n∧n<=z+60 by omega)]at hnr;rw[hzn,decide_eq_true hz0];simp (disch:=omega) [↓ac,↓aa,hg,hB,hnr]
     .rw[decide_eq_false hz0];simp (disch:=omega) [↓ac,↓aa,hg,hB]
    .refine⟨[],?_⟩;rw[ah ki,aag (fun h=>absurd h k0) (fun _=>ho)];unfold lO at ho;rw[ac k13]at ho;subst k13;by_cases b1:n<0
     .simp (disch:=omega) [↓ac,↓aa,hg,hB]
     .by_cases b2:511<n
      .simp (disch:=omega) [↓ac,↓aa,hg,hB]
      .have hz0:0<=z:=o_;have hzn:zg z=z:=by grind [zg]
       have hnr:=Kk z n o_ o_;rw[decide_eq_false (show ¬ (z-60<=n∧n<=z+60) by omega)]at hnr;rw[hzn,decide_eq_true hz0];simp (disch:=omega) [↓ac,↓aa,hg,hB,hnr]
   .by_cases ho:lO k n w z
    .have hn5:=Sg ho;obtain⟨H,e⟩:=ih (b+1) n z (bn h) hn5 hz;refine⟨H,?_⟩;have eR:dJ (k::(aK l).drop (b+1)) (n::r) w z=dJ ((aK l).drop (b+1)) r n z:=by grind [dJ]
     unfold lO at ho;rw[aa k13]at ho;rw[c1]at e;have hnr:=Kk w n o_ o_;rw[decide_eq_true (show w-60<=n∧n<=w+60 by omega)]at hnr;rw[ah ki,eR,<-e];simp (disch:=omega) [↓ac,↓aa,hg,hB,hnr]
    .refine⟨[],?_⟩;rw[ah ki,aag (fun h=>absurd h k0) (fun _=>ho)];unfold lO at ho;rw[aa k13]at ho;by_cases b1:n<0
     .simp (disch:=omega) [↓ac,↓aa,hg,hB]
     .by_cases b2:255<n
      .simp (disch:=omega) [↓ac,↓aa,hg,hB]
      .have hnr:=Kk w n o_ o_;rw[decide_eq_false (show ¬ (w-60<=n∧n<=w+60) by omega)]at hnr;simp (disch:=omega) [↓ac,↓aa,hg,hB,hnr]
def au7 {bks:G_}:∀ {t:G_}{w z:Int}{fin:Int×Int},um w->um z->dJ bks t w z=some fin->um fin.1∧um fin.2:=by
 induction bks with
 | nil =>
  grind [dJ]
 | cons k r ih =>
  intro t w z fin hw hz h
  cases t with
  | nil=>grind [dJ]
  | cons n t =>
   obtain⟨h1,h2,h3⟩:=pY (by rw[h];simp)
   grind [jY]
def ac1 (c:cu) (hc:c.Fit) (hm:c.info.may 11) (hf:fq c.info.max c.sects):∀ (gr:H_) (sr:J_) (j N:Nat) (w z:Int),c.sects.drop j=gr->c.steps.drop j=sr->gr.length=sr.length->um w->um z->
  ∃ H M,(Dn prog).code (.loop vX) ⟨[(1,.ptr 0 0),(3,A_ w),(4,A_ (zg z)),(5,B_ (decide (0<=z))),(23,.d (.lst (cS c.steps))),(24,A_ c.steps.length),(25,A_ j)],⟨[(0,.cells c.av)],N⟩⟩ =
  match mC gr sr w z with
  | some _=>some (.exit 0,⟨[],⟨H,M⟩⟩)
  | none=>some (.ret,⟨[(2,B_ false)],⟨H,M⟩⟩):=by
 have hmx:=jK hm;have hl1:=hc.steps.1;simp only[cu.av];intro gr
 induction gr with
 | nil =>
  intro sr j N w z hd hd2 he hw hz;have hi2:c.steps.length<=j:=by
   grind
  have hsr:sr=[]:=d_;refine⟨[],N,?_⟩;rw[ah vR,hsr,mC];simp (disch:=omega) [↓ac,↓aa]
 | cons l r ih =>
  intro sr j N w z hd hd2 he hw hz
  cases sr with
  | nil=>simp at he
  | cons t s =>
   simp only[aq,rR]at he;have hgt:=E3 hd2;have hlt2:=bv hd2;have hmt:t∈c.steps:=by rw[<-aT j c.steps,hd2];simp
   have htl:=hc.steps.2 t hmt;have hml:l∈c.sects:=by rw[<-aT j c.sects,hd];simp
   have hbk:=ta (hf l hml) hmx.1;have c0:((0:Nat):Int)=0:=rfl;rw[mC];by_cases hlen:(t.length:Int)=c.info.max
   .obtain⟨H,e⟩:=aed c hc.sects.1 hc.sects.2 c.info.max ⟨hmx.1,o_⟩ hf (.d (.lst (cS c.steps))) (.int .i64 c.steps.length) (.int .i64 j) j l r hd t htl o_ (hc.stepI t hmt) N t 0 w z rfl hw hz;rw[c0,wC]at e
    cases hrow:dJ (aK l) t w z with
    | none =>
     rw[hrow]at e;refine⟨H,N,?_⟩;rw[ah vR];simp (disch:=omega) [↓ac,hgt,e]
    | some fin =>
     rw[hrow]at e;obtain⟨f1,f2⟩:=au7 hw hz hrow;obtain⟨H2,M2,e2⟩:=ih s (j+1) N fin.1 fin.2 (bn hd) (bn hd2) he f1 f2;refine⟨H2,M2,?_⟩;rw[ah vR];rw[<-e2];simp (disch:=omega) [↓ac,hgt,e]
   .refine⟨[],N,?_⟩;have hn:dJ (aK l) t w z=none:=by
     cases hrow:dJ (aK l) t w z<;>grind [WI]
    rw[ah vR,hn];simp (disch:=omega) [↓ac,↓aa,hgt]
instance {gain:Int}{g:H_}{t:J_}:Decidable (A8 gain g t):=by unfold A8;infer_instance
def alk (c:cu) (hc:c.Fit) (hm:c.info.may 11) (hgn:0<=c.gain∧c.gain<=255) (hs:jF c.info c.sects):br prog ID [.agg c.av]=some (B_ (decide (A8 c.gain c.sects c.steps))):=by
 have c0:((0:Nat):Int)=0:=rfl;have hnv:zg (-1)=0:=rfl;have hdf:decide ((0:Int)<=-1)=false:=rfl;rw[aJ agZ agD rfl];by_cases h1:c.steps.length=c.info.groups.length
 .obtain⟨H,M,e⟩:=ac1 c hc hm hs.2 c.sects c.steps 0 1 c.gain (-1) rfl rfl o_ o_ o_;rw[c0,hnv,hdf]at e;by_cases hr:mC c.sects c.steps c.gain (-1)=none
  .rw[hr]at e;rw[decide_eq_false (fun h=>h hr)];simp (disch:=omega) [↓ac,e]
  .obtain⟨fin,hf⟩:=Option.ne_none_iff_exists'.1 hr;rw[hf]at e;rw[decide_eq_true hr];simp (disch:=omega) [↓ac,e]
 .rw[decide_eq_false (fun h=>h1 (by grind [JP]))];simp (disch:=omega) [↓ac,↓aa]
abbrev rl:=@Bool.or_false
def ae9 {h:ak}{l:G_}{a b:Nat}(hab:a<=b) (hb:b<=l.length) (x y:Int) (hx:x=a) (hy:y=b):tG h 1 (.d (.lst (aF l))) (some (A_ x)) (some (A_ y)) none=some (.d (.lst (aF ((l.drop a).take (b-a))))):=by
 subst hx hy;have e1:ef (A_ (b:Int)) (aF l).length=some b:=by rw[zG o_ (by rw[iB];omega)];simp
 have e2:ef (A_ (a:Int)) b=some a:=by rw[zG o_ o_];simp
 have e3:Jk 1 (aF l)=true:=by cases l<;>rfl
 simp only[tG,okSl,xB,lenOf,yS,xx,e1,e2,e3,sub];rw[aoU,apR]
def agU {id:Nat}(hid:1<=id∧id<=11):gv id<=8191:=(Cc id (Tw hid)).2.2.2
def an5 (id:Nat) (hid:1<=id∧id<=11) (v:Int) (hv:i64 v):br prog UE [A_ id,A_ v]=some (B_ (decide (v.natAbs<=gv id))):=by
 have i4:[[D.int .i64 v],[D.int .i64 0],[D.int .i64 0],[D.int .i64 0]]=aF [v,0,0,0]:=rfl;have i2:[[D.int .i64 v],[D.int .i64 0]]=aF [v,0]:=rfl;have hm:=agU hid;have hz:Lq (gv id) 0=false:=by unfold Lq;rw[decide_eq_false];omega
 have hf:Lq (gv id) v=!decide (v.natAbs<=gv id):=by
  unfold Lq;by_cases h:v.natAbs<=gv id
  .rw[decide_eq_true h,decide_eq_false o_];rfl
  .rw[decide_eq_false h,decide_eq_true o_];rfl
 rw[aJ ajw aiV rfl];by_cases h4:4<id
 .have h:=QY id hid [v,0] (by unfold bH;rw[aa o_];rfl);simp only[eM,List.any_nil,hz,hf,rl,Bool.not_not]at h;rw[<-i2]at h;generalize decide (v.natAbs<=gv id)=B at *;have hs:tG [] 1 (.own false 1 [[.int .i64 v],[.int .i64 0],[.int .i64 0],[.int .i64 0]]) none (some (A_ 2)) none=some (.d (.lst [[.int .i64 v],[.int .i64 0]])):=rfl;simp (maxSteps:=300000) (disch:=omega) [↓ac,↓aa,hs,h]
 .have h:=QY id hid [v,0,0,0] (by unfold bH;rw[ac o_];rfl);simp only[eM,List.any_nil,hz,hf,rl,Bool.not_not]at h;rw[<-i4]at h;generalize decide (v.natAbs<=gv id)=B at *;simp (maxSteps:=300000) (disch:=omega) [↓ac,↓aa,h]
def kq:C_->Nat->Nat
 | [],_=>0
 | x::r,i=>if x<=i then kq r i+1 else 0
def acW (os:C_) (ho:os.length<=100) (X:Obj) (x4 x54:AV) (y10 y12 y16 y34 y35 y55 y56:D) (i:Nat) (hi:i<=1000) (hoI:∀ x∈os,x<=1000) (hp:HS):∀ (r:C_) (b:Nat),os.drop (b+1)=r->(∃ x∈r,i<x)->
  (Dn prog).code (.loop v9) ⟨[(4,x4),(8,.own false 1 (cR os)),(10,.d y10),(12,.d y12),(14,A_ b),(15,A_ i),(16,.d y16),(34,.d y34),(35,.d y35),(54,x54),(55,.d y55),(56,.d y56)],hp⟩ =
  some (.exit 4,⟨[(4,x4),(8,.own false 1 (cR os)),(10,.d y10),(12,.d y12),(14,A_ (b+kq r i:Nat)),(16,.d y16),(34,.d y34),(35,.d y35),(54,x54),(55,.d y55),(56,.d y56)],hp⟩):=by
 obtain⟨h,n⟩:=hp;intro r
 induction r with
 | nil=>intro b hd hx;obtain⟨x,hx,_⟩:=hx;simp at hx
 | cons x r ih =>
  intro b hd hx;have hlt:=bv hd;have hnx:nth os (b+1)=x:=by
   have h2:=qA (l:=os) hlt;rw[hd]at h2;injection h2 with h2;exact h2.symm
  have hg:(cR os)[b+1]?=some [.int .i64 (x:Int)]:=by rw[En hlt,hnx]
  have hxI:=hoI x (by rw[<-hnx];exact jg hlt);rw[ah WL,kq];by_cases h1:x<=i
  .have hx2:∃ y∈r,i<y:=by
    obtain⟨y,hy,h3⟩:=hx;rcases az.1 hy with e | e
    .omega
    .exact⟨y,e,h3⟩
   have h5:=ih (b+1) (bn hd) hx2;have c1:((b+1:Nat):Int)=(b:Int)+1:=rfl;rw[c1]at h5;rw[ac h1,show b+(kq r i+1)=b+1+kq r i by omega,<-h5];simp (maxSteps:=300000) (disch:=omega) [↓ac,↓aa,hg]
  .rw[aa h1];simp (maxSteps:=300000) (disch:=omega) [↓ac,↓aa,hg]
def XA {l:C_}{i:Nat}:∀ {b:Nat},b<=l.length->(∀ x∈l.take b,x<=i)->kq l i=b+kq (l.drop b) i:=by
 induction l with
 | nil=>intro b hb h;simp at hb;subst hb;simp[kq]
 | cons x r ih =>
  intro b hb h
  cases b with
  | zero=>simp
  | succ b =>
   rw[kq,ac (h x s_),ih (b:=b) (by simpa using hb) (fun y hy=>h y (by simp[hy])),List.drop_succ_cons];omega
def anm {l:C_}{i:Nat}:∀ x∈l.take (kq l i),x<=i:=by
 induction l with
 | nil=>intro x hx;simp at hx
 | cons y r ih =>
  intro x hx;rw[kq]at hx;by_cases h:y<=i
  .rw[ac h,List.take_succ_cons]at hx;rcases az.1 hx with e | e
   .omega
   .exact ih x e
  .rw[aa h]at hx;simp at hx
def arT {l:C_}{i:Nat}:kq l i<=l.length:=by
 induction l with
 | nil=>simp[kq]
 | cons y r ih=>rw[kq];split<;>simp<;>omega
def MX (tl:C_) (bks:G_) (i:Nat) (v:Int):Prop:=v=0∨∃ k,bks[kq tl i]?=some k∧(1<=k∧k<=11)∧v.natAbs<=gv k.toNat
def xe (tl:C_) (bks:G_):Nat->G_->Prop
 | _,[]=>True
 | i,v::r=>MX tl bks i v∧xe tl bks (i+1) r
def ad6 (c:cu) (hc:c.Fit) (hm:c.info.may 11) (hf:fq c.info.max c.sects) (os:C_) (ho:os.length<=100) (hoI:∀ x∈os,x<=1000) (hne:os≠[]) (y10 y34 y35:D) (j:Nat) (l:P_) (rr:H_) (hd:c.sects.drop j=l::rr) (ls:G_) (hls:ls.length<=1000) (hlI:∀ v∈ls,i64 v) (hlast:∀ i,i<ls.length->∃ x∈os.drop 1,i<x) (N:Nat):∀ (r:G_) (i b:Nat),ls.drop i=r->b<=(os.drop 1).length->(∀ x∈(os.drop 1).take b,x<=i)->
  (xe (os.drop 1) (aK l) i r∧(Dn prog).code (.loop qd) ⟨[(4,.ptr 0 0),(8,.own false 1 (cR os)),(10,.d y10),(12,A_ j),(14,A_ b),(34,.d y34),(35,.d y35),(54,.d (.lst (aF ls))),(55,A_ ls.length),(56,A_ i)],⟨[(0,.cells c.av)],N⟩⟩ =
   some (.exit 2,⟨[(4,.ptr 0 0),(8,.own false 1 (cR os)),(10,.d y10),(34,.d y34),(35,.d y35)],⟨[(0,.cells c.av)],N⟩⟩))∨
  (¬ xe (os.drop 1) (aK l) i r∧(Dn prog).code (.loop qd) ⟨[(4,.ptr 0 0),(8,.own false 1 (cR os)),(10,.d y10),(12,A_ j),(14,A_ b),(34,.d y34),(35,.d y35),(54,.d (.lst (aF ls))),(55,A_ ls.length),(56,A_ i)],⟨[(0,.cells c.av)],N⟩⟩ =
   some (.ret,⟨[(6,B_ false)],⟨[],N⟩⟩)):=by
 have hmx:=jK hm;have hml:l∈c.sects:=by rw[<-aT j c.sects,hd];simp
 have hbk:=ta (hf l hml) hmx.1;simp only[cu.av];intro r
 induction r with
 | nil =>
  intro i b h hb hx;have hi:=bb h;refine .inl ⟨trivial,?_⟩;rw[ah ja];simp (maxSteps:=300000) (disch:=omega) [↓ac,↓aa]
 | cons v r ih =>
  intro i b h hb hx;have hg:=xC h;have hlt:=bv h;have hvI:=hlI v (by rw[<-aT i ls,h];simp);have c1:((i+1:Nat):Int)=(i:Int)+1:=rfl;by_cases v0:v=0
  .have h5:=ih (i+1) b (bn h) hb fun x hx2=>by have:=hx x hx2;omega
   rw[c1]at h5;have hL:MX (os.drop 1) (aK l) i v:=.inl v0;rw[xe];subst v0;rcases h5 with ⟨e1,e2⟩ | ⟨e1,e2⟩
   .refine .inl ⟨⟨hL,e1⟩,?_⟩;rw[ah ja,<-e2];simp (maxSteps:=300000) (disch:=omega) [↓ac,↓aa,hg]
   .refine .inr ⟨fun h=>e1 h.2,?_⟩;rw[ah ja,<-e2];simp (maxSteps:=300000) (disch:=omega) [↓ac,↓aa,hg]
  .have hsk:=XA hb hx;have hdd:os.drop (b+1)=(os.drop 1).drop b:=by rw[jC];congr 1;omega
   have hex:∃ x∈os.drop (b+1),i<x:=by
    obtain⟨x,hx1,hx2⟩:=hlast i hlt;rw[<-aT b (os.drop 1)]at hx1;rcases be.1 hx1 with h1 | h1
    .have:=hx x h1;omega
    .exact⟨x,by rw[hdd];exact h1,hx2⟩
   have h0:=acW os ho (.cells c.av) (.ptr 0 0) (.d (.lst (aF ls))) y10 (.int .i64 j) (.int .i64 v) y34 y35 (.int .i64 ls.length) (.int .i64 i) i o_ hoI ⟨[(0,.cells c.av)],N⟩ (os.drop (b+1)) b rfl hex;rw[hdd,<-hsk]at h0;have hbl:=arT (l:=os.drop 1) (i:=i);have hbt:=anm (l:=os.drop 1) (i:=i);have hol:(os.drop 1).length<=100:=by simp;omega
   obtain⟨B,hB⟩:∃ B,B=kq (os.drop 1) i:=⟨_,rfl⟩
   have h5:=ih (i+1) B (bn h) o_ fun x hx2=>by rw[hB]at hx2;have:=hbt x hx2;omega
   rw[c1]at h5;simp only[cu.av]at h0;rw[xe];unfold MX;rw[<-hB]at h0⊢;by_cases hBm:(B:Int)<c.info.max
   .have hBl:B<(aK l).length:=o_;obtain⟨k,hk⟩:∃ k,(aK l)[B]?=some k:=⟨_,bE hBl⟩
    have hBk:=abT c.sects hc.sects.1 hc.sects.2 c.info.max o_ hf j B l rr hd k hk;rw[hk];by_cases hk1:1<=k∧k<=11
    .obtain⟨K,rfl⟩:=aB (show 0<=k by omega);have hft:=an5 K o_ v hvI;by_cases hfit:v.natAbs<=gv K
     .rw[decide_eq_true hfit]at hft;have hL:v=0∨∃ k,some (K:Int)=some k∧(1<=k∧k<=11)∧v.natAbs<=gv k.toNat:=.inr ⟨K,rfl,hk1,by simpa using hfit⟩;rcases h5 with ⟨e1,e2⟩ | ⟨e1,e2⟩
      .refine .inl ⟨⟨hL,e1⟩,?_⟩;rw[ah ja,<-e2];simp (maxSteps:=300000) (disch:=omega) [↓ac,↓aa,hg,h0,hBk,hft]
      .refine .inr ⟨fun h=>e1 h.2,?_⟩;rw[ah ja,<-e2];simp (maxSteps:=300000) (disch:=omega) [↓ac,↓aa,hg,h0,hBk,hft]
     .rw[decide_eq_false hfit]at hft;refine .inr ⟨fun h=>?_,?_⟩
      .rcases h.1 with h | ⟨k,h1,h2,h3⟩
       .exact v0 h
       .injection h1 with h1;subst h1;exact hfit (by simpa using h3)
      .rw[ah ja];simp (maxSteps:=300000) (disch:=omega) [↓ac,↓aa,hg,h0,hBk,hft]
    .have hn:¬ ((v=0∨∃ k',some k=some k'∧(1<=k'∧k'<=11)∧v.natAbs<=gv k'.toNat)∧xe (os.drop 1) (aK l) (i+1) r):=fun h=>by
      rcases h.1 with h | ⟨k',h1,h2,h3⟩
      .exact v0 h
      .injection h1 with h1;subst h1;exact hk1 h2
     refine .inr ⟨hn,?_⟩;rw[ah ja];by_cases hk0:k<1
     .simp (maxSteps:=300000) (disch:=omega) [↓ac,↓aa,hg,h0,hBk]
     .simp (maxSteps:=300000) (disch:=omega) [↓ac,↓aa,hg,h0,hBk]
   .have hBl:(aK l)[B]?=none:=gP o_;rw[hBl];refine .inr ⟨fun h=>?_,?_⟩
    .rcases h.1 with h | ⟨k',h1,h2,h3⟩
     .exact v0 h
     .exact absurd h1 (by simp)
    .rw[ah ja];simp (maxSteps:=300000) (disch:=omega) [↓ac,↓aa,hg,h0]
abbrev dM:=@List.length_drop
abbrev fS:=@Nat.add_sub_cancel_left
def ahk:∀ {l:G_}{w:Int},w<l.sum->(∀ n∈l,1<=n)->0<=w->kO l w<l.length
 | [],w,h,_,h0=>by grind
 | n::r,w,h,hn,h0=>by
  rw[kO];split
  .simp
  .have:=ahk (l:=r) (w:=w-n) d_ (fun m hm=>hn m (.tail _ hm)) (by omega)
   simp_all
def aL.wide (i:aL):Nat:=if i.seq=2 then 32 else 256
def yw (c:cu) (w:Nat):G_:=(c.lines.drop (w*c.info.wide)).take c.info.wide
def xg (c:cu) (w:Nat):P_:=c.sects.getD (kO c.info.groups w) []
def IJ (r:Nat) (c:cu):Nat->Nat->Prop
 | 0,_=>True
 | k+1,w=>xe ((offs r c.info.short).drop 1) (aK (xg c w)) 0 (yw c w)∧IJ r c k (w+1)
abbrev SR (r:Nat) (c:cu):Prop:=c.lines.length=256∧IJ r c c.info.many 0
def AE:∀ x∈Hj,((offs x.1 x.2).drop 1).contains (cond x.2 32 256)=true∧(offs x.1 x.2).all (fun y=>decide (y<=1000))=true∧(offs x.1 x.2).length<=64∧1<=(offs x.1 x.2).length:=e_
def ad1 (rt:Nat) (hrt:rt<=11) (c:cu) (hc:c.Fit) (hm:c.info.may 11) (hs:jF c.info c.sects) (hl:c.lines.length=256) (N:Nat):∀ (k w:Nat),w+k=c.info.many->
  (IJ rt c k w∧∃ H,(Dn prog).code (.loop pV) ⟨[(4,.ptr 0 0),(8,.own false 1 (cR (offs rt c.info.short))),(10,A_ c.info.wide),(34,A_ c.info.many),(35,A_ w)],⟨[(0,.cells c.av)],N⟩⟩=some (.exit 0,⟨[],⟨H,N⟩⟩))∨
  (¬ IJ rt c k w∧(Dn prog).code (.loop pV) ⟨[(4,.ptr 0 0),(8,.own false 1 (cR (offs rt c.info.short))),(10,A_ c.info.wide),(34,A_ c.info.many),(35,A_ w)],⟨[(0,.cells c.av)],N⟩⟩=some (.ret,⟨[(6,B_ false)],⟨[],N⟩⟩)):=by
 have hmm:c.info.many*c.info.wide=256∧c.info.many<=8∧c.info.wide<=256∧1<=c.info.many:=by grind [aL.many,aL.wide]
 obtain⟨m1,m2,m3,m4⟩:=hmm;obtain⟨o1,o2,o3,o4⟩:=AE (rt,c.info.short) (fp o_);simp only at o1 o2 o3 o4;obtain⟨g1,g2⟩:=dG hm;have hoI:∀ x∈offs rt c.info.short,x<=1000:=fun x hx=>by simp_all
 have hcond:(cond c.info.short 32 256:Nat)=c.info.wide:=by
  grind [aL.short,aL.wide]
 rw[hcond]at o1;have hlast:∀ i,i<c.info.wide->∃ x∈(offs rt c.info.short).drop 1,i<x:=fun i hi=>⟨c.info.wide,u_,hi⟩
 intro k
 induction k with
 | zero =>
  intro w hw;refine .inl ⟨trivial,[],?_⟩;rw[ah vN];simp (disch:=omega) [↓ac,↓aa]
 | succ k ih =>
  intro w hw;have hG:=Pd c.info hc.info hm w o_ o_;have hgl:=ahk (l:=c.info.groups) (w:=w) o_ (fun n hn=>(g1 n hn).1) o_;obtain⟨G,hGe⟩:∃ G,G=kO c.info.groups w:=⟨_,rfl⟩
  rw[<-hGe]at hG hgl;have hGs:G<c.sects.length:=o_;have hsa:xg c w=c.sects[G]:=by grind [xg]
  have hd:=ee hGs;have hwl:w*c.info.wide+c.info.wide<=256:=by
   grind
  have hwn:(yw c w).length=c.info.wide:=by unfold yw;rw[di,dM];omega
  have hwI:∀ v∈yw c w,i64 v:=fun v hv=>hc.lineI v (cH (eG hv))
  have h1:=ad6 c hc hm hs.2 (offs rt c.info.short) o_ hoI d_ (.int .i64 c.info.wide) (.int .i64 c.info.many) (.int .i64 w) G c.sects[G] _ hd (yw c w) o_ hwI (fun i hi=>hlast i o_) N (yw c w) 0 0 rfl o_ s_;have h2:=ih (w+1) o_;have c1:((w+1:Nat):Int)=(w:Int)+1:=rfl;have c0:((0:Nat):Int)=0:=rfl;rw[c1]at h2;rw[c0]at h1;rw[hwn]at h1;have hmul:(w:Int)*c.info.wide=((w*c.info.wide:Nat):Int):=o_;have hmul2:((w:Int)+1)*c.info.wide=((w*c.info.wide+c.info.wide:Nat):Int):=d_;have hsl:=ae9 (h:=[(0,.cells c.av)]) (l:=c.lines) (a:=w*c.info.wide) (b:=w*c.info.wide+c.info.wide) o_ o_ ((w:Int)*c.info.wide) (((w:Int)+1)*c.info.wide) hmul hmul2;rw[fS]at hsl;have hW:((c.lines.drop (w*c.info.wide)).take c.info.wide)=yw c w:=rfl;rw[hW]at hsl;have hlw:=iB (l:=yw c w);rw[hwn]at hlw;rw[IJ,hsa];simp only[cu.av,aL.cells]at h1 h2 hsl hG⊢;rcases h1 with ⟨e1,e2⟩ | ⟨e1,e2⟩
  .rcases h2 with ⟨f1,H,f2⟩ | ⟨f1,f2⟩
   .refine .inl ⟨⟨e1,f1⟩,H,?_⟩;rw[ah vN,<-f2];simp (disch:=omega) [↓ac,hG,hsl,hlw,e2]
   .refine .inr ⟨fun h=>f1 h.2,?_⟩;rw[ah vN,<-f2];simp (disch:=omega) [↓ac,hG,hsl,hlw,e2]
  .refine .inr ⟨fun h=>e1 h.1,?_⟩;rw[ah vN];simp (disch:=omega) [↓ac,hG,hsl,hlw,e2]
def amd (rt:Nat) (hrt:rt<=11) (c:cu) (hc:c.Fit) (hm:c.info.may 11) (hs:jF c.info c.sects):(SR rt c∧br prog BY [A_ rt,.agg c.av,A_ c.info.many]=some (B_ true))∨(¬ SR rt c∧br prog BY [A_ rt,.agg c.av,A_ c.info.many]=some (B_ false)):=by
 have hof:=BX rt c.info.short;rw[aJ ahC ahR rfl];by_cases hl:c.lines.length=256
 .have h0:=ad1 rt hrt c hc hm hs hl 1 c.info.many 0 o_;have c0:((0:Nat):Int)=0:=rfl;rw[c0]at h0;have hq:(256:Int).tdiv c.info.many=c.info.wide:=by grind [aL.many,aL.wide]
  have hmm:1<=c.info.many∧c.info.many<=8∧c.info.wide<=256:=by grind [aL.many]
  by_cases hs2:c.info.seq=2
  .have hsh:c.info.short=true:=decide_eq_true hs2;rw[hsh]at hof h0;rcases h0 with ⟨e1,H,e2⟩ | ⟨e1,e2⟩
   .refine .inl ⟨⟨hl,e1⟩,?_⟩;simp (disch:=omega) [↓ac,hof,hq,e2]
   .refine .inr ⟨fun h=>e1 h.2,?_⟩;simp (disch:=omega) [↓ac,hof,hq,e2]
  .have hsh:c.info.short=false:=decide_eq_false hs2;rw[hsh]at hof h0;rcases h0 with ⟨e1,H,e2⟩ | ⟨e1,e2⟩
   .refine .inl ⟨⟨hl,e1⟩,?_⟩;simp (disch:=omega) [↓ac,↓aa,hof,hq,e2]
   .refine .inr ⟨fun h=>e1 h.2,?_⟩;simp (disch:=omega) [↓ac,↓aa,hof,hq,e2]
 .refine .inr ⟨fun h=>hl h.1,?_⟩;simp (disch:=omega) [↓ac,↓aa]
abbrev aqL:D_:=[.fn D1 [] [.ptr 1 0],.fn EH [] [.ptr 1 0],.fn DS [] [.ptr 1 0],.fn Eh [] [.ptr 1 0,.ptr 2 0],.fn DC [] [.ptr 0 0,.ptr 1 0,.ptr 2 0]]
abbrev yP (rt:Int) (c:cu):ak:=[(0,.cells [A_ rt]),(1,.cells c.av),(2,.cells [A_ c.info.many]),(3,.cells aqL)]
def xk (rt:Int) (c:cu) (N i:Nat) (hi:i<5) (F:AV) (hF:aqL[i]?=some F) (hF2:firm (firm (firm (share F)))=F) (B:Bool) (hB:cf (Dn prog) F [] ⟨yP rt c,N⟩=some (B_ B,⟨yP rt c,N⟩)) :
  (Dn prog).code (.loop jZ) ⟨[(28,.sl 3 0 5),(29,A_ 5),(30,A_ i)],⟨yP rt c,N⟩⟩ =
  if B=true then (Dn prog).code (.loop jZ) ⟨[(28,.sl 3 0 5),(29,A_ 5),(30,A_ ((i+1:Nat):Int))],⟨yP rt c,N⟩⟩ else some (.ret,⟨[(4,A_ 8)],⟨yP rt c,N⟩⟩):=by
 have c1:((i+1:Nat):Int)=(i:Int)+1:=rfl;obtain⟨hlt,e⟩:=aI.1 hF;rw[c1,ah JF]
 cases B with
 | true =>
  simp (disch:=omega) [↓ac,↓aa,e,hF2,hB]
 | false =>
  simp (disch:=omega) [↓ac,↓aa,e,hF2,hB]
def auq (rt:Int) (c:cu) (N:Nat):(Dn prog).call D1 [.ptr 1 0] ⟨yP rt c,N⟩=some (B_ (decide (0<=c.gain∧c.gain<=255)),⟨yP rt c,N⟩):=by
 rw[ba ZH abd rfl];by_cases h1:0<=c.gain
 .by_cases h2:c.gain<=255
  .rw[decide_eq_true ⟨h1,h2⟩];simp (disch:=omega) [↓ac,↓aa]
  .rw[decide_eq_false (fun h=>h2 h.2)];simp (disch:=omega) [↓ac,↓aa]
 .rw[decide_eq_false (fun h=>h1 h.1)];simp (disch:=omega) [↓ac,↓aa]
def auE (rt:Int) (c:cu) (N:Nat) (B:Bool) (h:br prog BK [.agg c.av]=some (B_ B)):(Dn prog).call EH [.ptr 1 0] ⟨yP rt c,N⟩=some (B_ B,⟨yP rt c,N⟩):=by
 rw[ba aaP aby rfl];simp (disch:=omega) [h]
def au9 (rt:Int) (c:cu) (N:Nat) (B:Bool) (h:br prog ID [.agg c.av]=some (B_ B)):(Dn prog).call DS [.ptr 1 0] ⟨yP rt c,N⟩=some (B_ B,⟨yP rt c,N⟩):=by
 rw[ba aa0 abz rfl];simp (disch:=omega) [h]
def av2 (rt:Int) (c:cu) (N:Nat) (B:Bool) (h:br prog Dm [.agg c.av,A_ c.info.many]=some (B_ B)):(Dn prog).call Eh [.ptr 1 0,.ptr 2 0] ⟨yP rt c,N⟩=some (B_ B,⟨yP rt c,N⟩):=by
 rw[ba aaS abf rfl];simp (disch:=omega) [h]
def ako (rt:Int) (c:cu) (N:Nat) (B:Bool) (h:br prog BY [A_ rt,.agg c.av,A_ c.info.many]=some (B_ B)):(Dn prog).call DC [.ptr 0 0,.ptr 1 0,.ptr 2 0] ⟨yP rt c,N⟩=some (B_ B,⟨yP rt c,N⟩):=by
 rw[ba aah abk rfl];simp (disch:=omega) [h]
structure mR (r:Nat) (c:cu):Prop where
 gain:0<=c.gain∧c.gain<=255
 info:c.info.may r
 sects:jF c.info c.sects
 steps:A8 c.gain c.sects c.steps
 tns:Td c.info c.tns
 lines:SR r c
def MS {f:FuncId}{caps:D_}{h:ak}{N:Nat}:cf (Dn prog) (.fn f [] caps) [] ⟨h,N⟩=(Dn prog).call f caps ⟨h,N⟩:=s_
def OB (rt:Int) (c:cu) (hc:c.Fit):(dV rt∧mR rt.toNat c∧br prog jo [A_ rt,.agg c.av]=some (A_ 0))∨
  (dV rt∧¬ mR rt.toNat c∧br prog jo [A_ rt,.agg c.av]=some (A_ 8))∨(¬ dV rt∧br prog jo [A_ rt,.agg c.av]=some (A_ 2)):=by
 have hi:=xE rt c.info hc.info;have hw:=oi c.info hc.info;simp only[aL.cells]at hi hw;by_cases hr:dV rt
 .rw[ac hr]at hi;by_cases hm:c.info.may rt.toNat
  .rw[ac hm]at hi;have hm11:=gh o_ hm;rw[ac hm11]at hw;have hmm:c.info.many<=8:=by grind [aL.many]
   have cI:(rt.toNat:Int)=rt:=o_;have c0:((0:Nat):Int)=0:=rfl;have fin:∀ (e:Int) (X:K_),(Dn prog).code (.loop jZ) ⟨[(28,.sl 3 0 5),(29,A_ 5),(30,A_ ((0:Nat):Int))],⟨yP rt c,4⟩⟩=X->(X=some (.exit 0,⟨[],⟨yP rt c,4⟩⟩)∧e=0∨X=some (.ret,⟨[(4,A_ 8)],⟨yP rt c,4⟩⟩)∧e=8)->br prog jo [A_ rt,.agg c.av]=some (A_ e):=by
    intro e X h hX;rw[c0]at h;simp only[yP,aqL,cu.av]at h hX;rw[aJ IL Jq rfl];rcases hX with ⟨rfl,rfl⟩ | ⟨rfl,rfl⟩
    .simp (disch:=omega) [↓ac,↓aa,hi,hw,JN,h]
    .simp (disch:=omega) [↓ac,↓aa,hi,hw,JN,h]
   have s1:=xk rt c 4 0 o_ _ rfl rfl _ (MS.trans (auq rt c 4));by_cases b1:0<=c.gain∧c.gain<=255
   .rw[ac (decide_eq_true b1)]at s1;have s2:=xk rt c 4 (0+1) o_ _ rfl rfl _ (MS.trans (auE rt c 4 _ (adX c hc hm11)));rw[s2]at s1;by_cases b2:jF c.info c.sects
    .rw[ac (decide_eq_true b2)]at s1;have s3:=xk rt c 4 (0+1+1) o_ _ rfl rfl _ (MS.trans (au9 rt c 4 _ (alk c hc hm11 b1 b2)));rw[s3]at s1;by_cases b3:A8 c.gain c.sects c.steps
     .rw[ac (decide_eq_true b3)]at s1;have s4:=xk rt c 4 (0+1+1+1) o_ _ rfl rfl _ (MS.trans (av2 rt c 4 _ (agx c hc c.info.many hmm)));rw[s4]at s1;by_cases b4:Td c.info c.tns
      .rw[ac (decide_eq_true b4)]at s1;have hL:=amd rt.toNat o_ c hc hm11 b2;rw[cI]at hL;rcases hL with ⟨b5,h5⟩ | ⟨b5,h5⟩
       .have s5:=xk rt c 4 (0+1+1+1+1) o_ _ rfl rfl _ (MS.trans (ako rt c 4 _ h5));rw[s5]at s1;have s6:(Dn prog).code (.loop jZ) ⟨[(28,.sl 3 0 5),(29,A_ 5),(30,A_ ((0+1+1+1+1+1:Nat):Int))],⟨yP rt c,4⟩⟩=some (.exit 0,⟨[],⟨yP rt c,4⟩⟩):=by
         have c5:((0+1+1+1+1+1:Nat):Int)=5:=rfl;rw[c5,ah JF];simp (disch:=omega) [↓aa]
        rw[s6]at s1;exact .inl ⟨hr,⟨b1,hm,b2,b3,b4,b5⟩,fin 0 _ s1 (.inl ⟨rfl,rfl⟩)⟩
       .have s5:=xk rt c 4 (0+1+1+1+1) o_ _ rfl rfl _ (MS.trans (ako rt c 4 _ h5))
        grind [mR.lines]
      grind [mR.tns]
     grind [mR.steps]
    grind [mR.sects]
   grind [mR.gain]
  .refine .inr (.inl ⟨hr,fun h=>hm h.info,?_⟩);rw[aJ IL Jq rfl];simp (disch:=omega) [↓ac,↓aa,hi]
 .refine .inr (.inr ⟨hr,?_⟩);rw[aJ IL Jq rfl];simp (disch:=omega) [↓ac,↓aa,hi]
def aEe {n:Int}{k P:Nat}(hP:2 ^ k=P) (hk:k<=62):fo .and (A_ n) (A_ ((P:Int)-1))=some (.int .i64 (n % P)):=by
 have h1:2 ^ k<=2 ^ 62:=aw o_ hk;have h2:=bO k;have hd:(P:Int) ∣ 18446744073709551616:=by
  subst hP;have:(2:Nat) ^ k ∣ 2 ^ 64:=Nat.pow_dvd_pow 2 o_;have:=Int.natCast_dvd_natCast.2 this;simpa using this
 have e0:0<=n % 18446744073709551616:=Int.emod_nonneg _ o_;have e1:n % 18446744073709551616 % P=n % P:=Int.emod_emod_of_dvd n hd;refine u4 ?_;rw[my s_ s_];have c:(P:Int)-1=((P-1:Nat):Int):=o_;rw[c];simp only[jN,HW,BitVec.toNat_and,Ln (show P-1<pq .i64 by simp[pq,IntKind.signed];omega)];have e2:((2 ^ IntKind.i64.bits:Nat):Int)=18446744073709551616:=rfl;rw[BitVec.toNat_ofInt,e2];subst hP;rw[nh];have h3:(n % 18446744073709551616).toNat % 2 ^ k<2 ^ k:=dW _ h2;rw[ant (by simp[pq,IntKind.signed];omega),Int.natCast_emod];have e3:(((n % 18446744073709551616).toNat:Nat):Int)=n % 18446744073709551616:=o_;rw[e3,e1]
def ab4 {hp:AV->ak}{p N:Nat}(H:Hv hp p) {b:C_}(hb:b.length<=900000000) (n:Int) (s:Nat) (hs:s<=31) (hn:i64 n) (sI:Int) (es:sI=s) :
  (Dn prog).call qp [A_ n,A_ sI,.ptr p 0] ⟨hp (.own false 1 (am b)),N⟩=some (.tup [],⟨hp (.own false 1 (am (b++ar (n % ((2 ^ s:Nat):Int)).toNat s))),N⟩):=by
 subst es;have h31:2 ^ s<=2 ^ 31:=aw o_ hs;have h2:=bO s;have q1:=Tk (m:=s) o_;have q2:=aEe (n:=n) (k:=s) rfl o_;have e0:0<=n % ((2 ^ s:Nat):Int):=Int.emod_nonneg _ o_;have e1:n % ((2 ^ s:Nat):Int)<((2 ^ s:Nat):Int):=Int.emod_lt_of_pos _ o_;have h1:=mG b (n % ((2 ^ s:Nat):Int)) s hb o_ _ (.inl rfl);rw[ac (by simp only[rq,au];omega)]at h1;simp only[au]at h1;generalize n % ((2 ^ s:Nat):Int)=Q at *;generalize 2 ^ s=P at *;rw[ba XI W0 rfl];simp (maxSteps:=300000) (disch:=omega) [H.get,H.put,-rX,q1,q2,h1]
def fG (f:bT):Bool:=decide (∀ c∈f.coefs,-(dB f.fine / 2)<=c∧c<dB f.fine / 2)
def fB (fine:Bool):Nat:=if fine then 4 else 3
def dP (b:Bool):Nat:=if b then 1 else 0
def tH (f:bT):Nat:=fB f.fine-dP (fG f)
def pT (w:Nat) (l:G_):C_:=l.flatMap fun c=>ar (c % ((2 ^ w:Nat):Int)).toNat w
def bN (sh:Bool):Nat:=if sh then 4 else 6
def bM (sh:Bool):Nat:=if sh then 3 else 5
def eu (sh:Bool):Nat:=if sh then 1 else 2
def su (sh:Bool) (f:bT):C_:=ar f.len.toNat (bN sh)++(ar f.order.toNat (bM sh)++if f.order=0 then [] else ar (dP f.down) 1++(ar (dP (fG f)) 1++pT (tH f) f.coefs))
def yI (sh:Bool) (l:AA_):C_:=ar l.length (eu sh)++match l with
 | []=>[]
 | f0::_=>ar (dP f0.fine) 1++l.flatMap (su sh)
def jl (sh:Bool) (t:N_):C_:=t.flatMap (yI sh)
abbrev UA (sh:Bool) (v:AV):ak:=[(0,.cells [v]),(2,.cells (lY sh))]
abbrev Wv (full:N_) (i:Int) (r:aV):aV:=(3,.ptr 0 0)::(9,.fn qp [] [.ptr 0 0])::(10,.ptr 2 0)::(30,.d (.lst (cK full)))::(31,A_ full.length)::(32,A_ i)::r
def arO (sh:Bool):Hv (UA sh) 0:=⟨fun v=>by simp,fun v w=>by simp⟩
theorem XR {w:Nat}:∀ {l:G_},(pT w l).length=w*l.length
 | []=>by simp[pT]
 | c::r=>by
  have:=XR (w:=w) (l:=r);rw[pT]at this⊢;rw[aH,al,dL,aq,this,Nat.mul_add];omega
def axN (sh:Bool) (full:N_) (i:Int) (l:AA_) (k:Int) (nw:Bool) (w:Nat) (hw:1<=w-dP nw∧w<=4) (cs:G_) (hcs:cs.length<=100) (hcI:∀ c∈cs,i64 c) (N:Nat):∀ (r:G_) (j:Nat) (b:C_),cs.drop j=r->b.length+4*r.length<=900000000->
  (Dn prog).code (.loop tu) ⟨(3,.ptr 0 0)::(9,.fn qp [] [.ptr 0 0])::(10,.ptr 2 0)::(15,A_ w)::(16,B_ nw)::(30,.d (.lst (cK full)))::(31,A_ full.length)::(32,A_ i)::[(52,.d (.lst (ej l))),(53,A_ l.length),(54,A_ k),(91,.d (.lst (aF cs))),(92,A_ cs.length),(93,A_ j)],⟨UA sh (.own false 1 (am b)),N⟩⟩ =
  some (.exit 4,⟨Wv full i [(52,.d (.lst (ej l))),(53,A_ l.length),(54,A_ k)],⟨UA sh (.own false 1 (am (b++pT (w-dP nw) r))),N⟩⟩):=by
 intro r
 induction r with
 | nil =>
  intro j b hd hb;have hi:=bb hd;rw[ah IU];simp (maxSteps:=300000) (disch:=omega) [↓aa,pT]
 | cons c r ih =>
  intro j b hd hb;simp only[aq]at hb;have hg:=xC hd;have hlt:=bv hd;have hcc:=hcI c (by rw[<-aT j cs,hd];simp);have hbit:=EX nw;have hbI:((dP nw:Nat):Int)=if nw=true then 1 else 0:=by cases nw<;>rfl
  rw[<-hbI]at hbit;have hbb:dP nw<=1:=by cases nw<;>decide
  have hp:=ab4 (arO sh) (N:=N) (b:=b) o_ c (w-dP nw) o_ hcc ((w:Int)-dP nw) o_;have h5:=ih (j+1) (b++ar (c % ((2 ^ (w-dP nw):Nat):Int)).toNat (w-dP nw)) (bn hd) g_;have c1:((j+1:Nat):Int)=(j:Int)+1:=rfl;have ea:b++pT (w-dP nw) (c::r)=b++ar (c % ((2 ^ (w-dP nw):Nat):Int)).toNat (w-dP nw)++pT (w-dP nw) r:=by rw[pT,aH,aA];rfl
  rw[c1]at h5;rw[ea,<-h5,ah IU];simp (maxSteps:=300000) (disch:=omega) [↓ac,hg,hbit,hp]
abbrev jE:=@Int.emod_eq_of_lt
@[simp] def aE1 {sh:Bool}:(lY sh)[0]?=some (A_ (eu sh:Int)):=by cases sh<;>rfl
@[simp] def aEQ {sh:Bool}:(lY sh)[1]?=some (A_ (bN sh:Int)):=by cases sh<;>rfl
@[simp] def aE4 {sh:Bool}:(lY sh)[2]?=some (A_ (bM sh:Int)):=by cases sh<;>rfl
@[simp] def aAt {sh:Bool}:(lY sh).map oF=lY sh:=by cases sh<;>rfl
def AR {hp:AV->ak}{p N:Nat}(H:Hv hp p) {b:C_}(hb:b.length<=900000000) (n:Int) (s:Nat) (hs:s<=31) (h0:0<=n) (h1:n.toNat<2 ^ s) (m:Nat) (hm:m=n.toNat) (sI:Int) (es:sI=s) :
  (Dn prog).call qp [A_ n,A_ sI,.ptr p 0] ⟨hp (.own false 1 (am b)),N⟩=some (.tup [],⟨hp (.own false 1 (am (b++ar m s))),N⟩):=by
 have h31:2 ^ s<=2 ^ 31:=aw o_ hs;have h:=ab4 H (N:=N) hb n s hs o_ sI es
 simp_all [jE]
abbrev ayJ (sh:Bool) (N:Nat) (f:bT) (v:AV):ak:=[(0,.cells [v]),(2,.cells (lY sh)),(N,.cells f.av)]
def aeA (sh:Bool) (N:Nat) (hN:3<=N) (f:bT):Hv (ayJ sh N f) 0:=⟨fun v=>by simp,fun v w=>by simp⟩
def Vb (f:bT):1<=tH f∧fB f.fine<=4∧3<=fB f.fine∧dP (fG f)<=1:=by
 grind [tH,fB,dP]
theorem aw4 (sh:Bool) (full:N_) (i:Int) (l:AA_) (hl:l.length<=100) (k N:Nat) (hN:3<=N) (f:bT) (r:AA_) (hd:l.drop k=f::r) (hf:CT sh f) (hcI:∀ c∈f.coefs,i64 c) (b:C_) (hb:b.length<=800000000) :
  (Dn prog).code nX ⟨Wv full i [(52,.d (.lst (ej l))),(53,A_ l.length),(54,A_ k)],⟨UA sh (.own false 1 (am b)),N⟩⟩ =
  some (.normal,⟨Wv full i [(52,.d (.lst (ej l))),(53,A_ l.length),(54,A_ ((k+1:Nat):Int))],⟨UA sh (.own false 1 (am (b++su sh f))),N+1⟩⟩):=by
 have hg:=An hd;have hlt:=bv hd;obtain⟨⟨l1,l2⟩,⟨o1,o2⟩,c1,d1,c2⟩:=hf;have hlw:Ac sh<2 ^ bN sh∧bN sh<=6∧wE sh<2 ^ bM sh∧bM sh<=5∧wE sh<=12:=by cases sh<;>decide
 obtain⟨w1,w2,w3,w4,w5⟩:=hlw;have wN1:((2 ^ bN sh:Nat):Int)=2 ^ bN sh:=s_;have wN2:((2 ^ bM sh:Nat):Int)=2 ^ bM sh:=s_;have p1:=AR (aeA sh N hN f) (N:=N+1) (b:=b) o_ f.len (bN sh) o_ l1 o_ f.len.toNat rfl (bN sh) rfl;have p2:=AR (aeA sh N hN f) (N:=N+1) (b:=b++ar f.len.toNat (bN sh)) g_ f.order (bM sh) o_ o1 o_ f.order.toNat rfl (bM sh) rfl;have n0:N≠0∧N≠1∧N≠2:=o_;obtain⟨n0,n1,n2⟩:=n0;have c9:((k+1:Nat):Int)=(k:Int)+1:=rfl;rw[c9,IM];by_cases h0:f.order=0
 .have e:b++su sh f=b++ar f.len.toNat (bN sh)++ar f.order.toNat (bM sh):=by grind [su]
  rw[e];generalize b++ar f.len.toNat (bN sh)++ar f.order.toNat (bM sh)=B2 at *;generalize b++ar f.len.toNat (bN sh)=B1 at *;simp only[ayJ,bT.av]at p1 p2;simp (disch:=omega) [↓ac,↓aa,hg,p1,p2]
 .have hw:=Iw f.fine;obtain⟨q1,q2,q3,q4⟩:=Vb f;have hcl:f.coefs.length<=100:=o_;have hft:=La f.coefs o_ (fB f.fine-1) o_;have hh:((2 ^ (fB f.fine-1-1):Nat):Int)=dB f.fine / 2:=by unfold fB dB;grind
  have hwI:(if f.fine=true then (4:Int) else 3)=(fB f.fine:Int):=by grind [fB]
  have hwS:((fB f.fine-1:Nat):Int)=(fB f.fine:Int)-1:=o_;have hnr:decide (∀ c∈f.coefs,-(dB f.fine / 2)<=c∧c<dB f.fine / 2)=fG f:=rfl;rw[hh,hnr,hwS]at hft;rw[hwI]at hw;have hb1:=EX f.down;have hb2:=EX (fG f);have e1:(if f.down=true then (1:Int) else 0)=(dP f.down:Int):=by cases f.down<;>rfl
  have e2:(if fG f=true then (1:Int) else 0)=(dP (fG f):Int):=by cases fG f<;>rfl
  rw[e1]at hb1;rw[e2]at hb2;have hbd:dP f.down<=1:=o_;have p3:=AR (aeA sh N hN f) (N:=N+1) (b:=b++ar f.len.toNat (bN sh)++ar f.order.toNat (bM sh)) g_ (dP f.down) 1 o_ o_ o_ (dP f.down) s_ 1 rfl;have p4:=AR (aeA sh N hN f) (N:=N+1) (b:=b++ar f.len.toNat (bN sh)++ar f.order.toNat (bM sh)++ar (dP f.down) 1) g_ (dP (fG f)) 1 o_ o_ o_ (dP (fG f)) s_ 1 rfl;have p5:=axN sh full i l k (fG f) (fB f.fine) o_ f.coefs hcl hcI (N+1) f.coefs 0 (b++ar f.len.toNat (bN sh)++ar f.order.toNat (bM sh)++ar (dP f.down) 1++ar (dP (fG f)) 1) rfl g_;have c0:((0:Nat):Int)=0:=rfl;have hlc:=iB (l:=f.coefs);have e:b++su sh f=b++ar f.len.toNat (bN sh)++ar f.order.toNat (bM sh)++ar (dP f.down) 1++ar (dP (fG f)) 1++pT (fB f.fine-dP (fG f)) f.coefs:=by
   rw[su,aa h0];simp only[aA];rfl
  rw[c0]at p5;rw[e];generalize b++ar f.len.toNat (bN sh)++ar f.order.toNat (bM sh)++ar (dP f.down) 1++ar (dP (fG f)) 1=B4 at *;generalize b++ar f.len.toNat (bN sh)++ar f.order.toNat (bM sh)=B2 at *;simp (disch:=omega) [↓ac,↓aa,hg,p1,p2,p3,p4,p5,hw,hft,hb1,hb2,hlc]
theorem afi {sh:Bool}{f:bT}(hf:CT sh f):(su sh f).length<=100:=by
 obtain⟨⟨l1,l2⟩,⟨o1,o2⟩,c1,d1,c2⟩:=hf;have hlw:bN sh<=6∧bM sh<=5∧wE sh<=12:=by cases sh<;>decide
 obtain⟨q1,q2,q3,q4⟩:=Vb f;have hcw:tH f<=4:=by unfold tH;omega
 have h1:tH f*f.coefs.length<=4*f.coefs.length:=bY _ hcw
 grind [su,dL,XR]
def apr (sh:Bool) (full:N_) (i:Int) (l:AA_) (hl:l.length<=100):∀ (r:AA_) (k N:Nat) (b:C_),l.drop k=r->3<=N->(∀ f∈r,CT sh f∧∀ c∈f.coefs,i64 c)->b.length+100*r.length<=800000000->
  ∃ M,3<=M∧(Dn prog).code (.loop nX) ⟨Wv full i [(52,.d (.lst (ej l))),(53,A_ l.length),(54,A_ k)],⟨UA sh (.own false 1 (am b)),N⟩⟩ =
  some (.exit 2,⟨Wv full i [],⟨UA sh (.own false 1 (am (b++r.flatMap (su sh)))),M⟩⟩):=by
 intro r
 induction r with
 | nil =>
  intro k N b hd hN hr hb;have hi:=bb hd;refine⟨N,hN,?_⟩;rw[ah IM,fY,bg];simp (disch:=omega) [↓aa]
 | cons f r ih =>
  intro k N b hd hN hr hb;obtain⟨h1,h2⟩:=hr f (.head _);have h3:=afi h1;obtain⟨M,hM,e⟩:=ih (k+1) (N+1) (b++su sh f) (bn hd) o_ (fun q hq=>hr q (.tail _ hq)) (by grind)
  grind [ah,aw4,Mx]
def aa5 {sh:Bool}{l:AA_}(h:t9 sh l):(yI sh l).length<=1000:=by
 have hm:qq sh<=3∧eu sh<=2:=by cases sh<;>decide
 have h1:=h.1;unfold yI;rw[al,dL]
 cases l with
 | nil=>grind
 | cons f0 r =>
  have h2:=h.2 f0 s_;have:∀ q:AA_,(∀ f∈q,CT sh f)->(q.flatMap (su sh)).length<=100*q.length:=by
   intro q
   induction q<;>grind [afi]
  grind [dL]
def axo (i:aL) (full:N_) (hl:full.length<=1000):∀ (r:N_) (j N:Nat) (b:C_),full.drop j=r->3<=N->(∀ l∈r,t9 i.short l∧∀ f∈l,∀ c∈f.coefs,i64 c)->b.length+1000*r.length<=700000000->
  ∃ M,(Dn prog).code (.loop tx) ⟨Wv full j [],⟨UA i.short (.own false 1 (am b)),N⟩⟩ =
  some (.exit 0,⟨[(3,.ptr 0 0)],⟨[(0,.cells [.own false 1 (am (b++jl i.short r))])],M⟩⟩):=by
 intro r
 induction r with
 | nil =>
  intro j N b hd hN hr hb;have hi:=bb hd;refine⟨N,?_⟩;rw[ah z7,jl,fY,bg];simp (disch:=omega) [↓aa]
 | cons l r ih =>
  intro j N b hd hN hr hb;simp only[aq]at hb;have hg:=tj hd;have hlt:=bv hd;obtain⟨h1,h2⟩:=hr l (.head _);have hwl:=aa5 h1;have hm:qq i.short<=3∧eu i.short<=2∧qq i.short<2 ^ eu i.short:=by cases i.short<;>decide
  obtain⟨m1,m2,m3⟩:=hm;have hll:=h1.1;have p1:=AR (arO i.short) (N:=N) (b:=b) o_ l.length (eu i.short) o_ o_ o_ l.length s_ (eu i.short) rfl;have c1:((j+1:Nat):Int)=(j:Int)+1:=rfl;have c0:((0:Nat):Int)=0:=rfl
  cases l with
  | nil =>
   have eb:yI i.short []=ar 0 (eu i.short):=by simp[yI]
   obtain⟨M2,hM2,p2⟩:=apr i.short full j [] s_ [] 0 N (b++yI i.short []) rfl hN s_ d_;obtain⟨M,e⟩:=ih (j+1) M2 (b++yI i.short []) (bn hd) hM2 (fun q hq=>hr q (.tail _ hq)) d_;refine⟨M,?_⟩;have ea:b++jl i.short ([]::r)=b++yI i.short []++jl i.short r:=by grind [jl]
   rw[eb]at ea e p2;simp only[bu,fY,bg]at p1 p2;rw[c1]at e;rw[c0]at p1 p2;have n0:ej []=[]:=rfl;rw[n0]at hg p2;rw[ea];generalize b++ar 0 (eu i.short)++jl i.short r=BB at *;generalize b++ar 0 (eu i.short)=B1 at *;simp only[UA]at p1 p2 e⊢;rw[<-e,ah z7];simp (disch:=omega) [↓ac,↓aa,hg,p1,p2]
  | cons f0 r0 =>
   have hgf:=An (l:=f0::r0) (i:=0) (s:=f0) (r:=r0) rfl;have hb1:=EX f0.fine;have e1:(if f0.fine=true then (1:Int) else 0)=(dP f0.fine:Int):=by cases f0.fine<;>rfl
   rw[e1]at hb1;have hbd:dP f0.fine<=1:=o_;have hok:∀ f∈f0::r0,CT i.short f∧∀ c∈f.coefs,i64 c:=fun f hf=>⟨(h1.2 f0 s_ f hf).1,h2 f hf⟩
   have p2:=AR (arO i.short) (N:=N) (b:=b++ar (f0::r0).length (eu i.short)) g_ (dP f0.fine) 1 o_ o_ o_ (dP f0.fine) s_ 1 rfl;obtain⟨M2,hM2,p3⟩:=apr i.short full j (f0::r0) o_ (f0::r0) 0 N (b++ar (f0::r0).length (eu i.short)++ar (dP f0.fine) 1) rfl hN hok (by grind [dL]);have eb:b++ar (f0::r0).length (eu i.short)++ar (dP f0.fine) 1++(f0::r0).flatMap (su i.short)=b++yI i.short (f0::r0):=by grind [yI]
   obtain⟨M,e⟩:=ih (j+1) M2 (b++yI i.short (f0::r0)) (bn hd) hM2 (fun q hq=>hr q (.tail _ hq)) d_;refine⟨M,?_⟩;have ea:b++jl i.short ((f0::r0)::r)=b++yI i.short (f0::r0)++jl i.short r:=by grind [jl]
   have hll2:1<=(f0::r0).length:=s_;rw[eb]at p3;rw[c1]at e;rw[c0]at p3;rw[ea];generalize b++ar (f0::r0).length (eu i.short)++ar (dP f0.fine) 1=B2 at *;generalize hLL:(f0::r0).length=LL at *;have hfl:(ej (f0::r0)).length=LL:=u_;obtain⟨hgl,hge⟩:=aI.1 hgf;rw[<-e,ah z7];simp (disch:=omega) [↓ac,↓aa,hg,hge,hfl,hb1,p1,p2,p3]
def ajz (i:aL) (f0:bT) (l:AA_) (f:bT) (hf:CT i.short f∧f.fine=f0.fine) (H:ak) (p q M:Nat) (hp:get H p=some (.cells i.cells)) (hq:get H q=some (.cells [.d (.lst (ej (f0::l)))])) (hl:(f0::l).length<=1000000) (hM:Lt H M) :
  (Dn prog).call nk [.agg f.av,.ptr p 0,.ptr q 0] ⟨H,M⟩=some (B_ false,⟨H,M+1⟩):=by
 have e1:=fun o=>uU (o:=o) hM
 have e2:=fun o=>xi (o:=o) hM
 have e3:=fun o=>AB (N:=M) (o:=o) hp
 have e4:=fun o=>AB (N:=M) (o:=o) hq
 have e5:=fun o=>LO (o:=o) hM
 have e6:=acY i f hf.1;have hfn:=hf.2;have hg:=An (l:=f0::l) (i:=0) (s:=f0) (r:=l) rfl;rw[ba TZ TV rfl];simp only[bT.av,aL.cells]at e3 e6⊢
 cases hf2:f0.fine<;>rw[hf2]at hg hfn<;>rw[hfn]at e6⊢<;>
  simp (disch:=omega) [e1,e2,e3,e4,e5,e6,hg]
def ahJ (i:aL) (full:N_) (hl:full.length<=1000):∀ (r:N_) (j N:Nat) (H:ak),full.drop j=r->get H 0=some (.cells i.cells)->Lt H N->1<=N->(∀ l∈r,t9 i.short l)->
  ∃ H2 M,(Dn prog).code (.loop ql) ⟨[(2,.ptr 0 0),(21,.d (.lst (cK full))),(22,A_ full.length),(23,A_ j)],⟨H,N⟩⟩=some (.exit 0,⟨[],⟨H2,M⟩⟩):=by
 intro r
 induction r with
 | nil =>
  intro j N H hd hH hL hN hr;have hi:=bb hd;refine⟨H,N,?_⟩;rw[ah E6];simp (disch:=omega) [↓aa]
 | cons l r ih =>
  intro j N H hd hH hL hN hr;have hg:=tj hd;have hlt:=bv hd;have hW:=hr l (.head _);have hm:qq i.short<=3:=by cases i.short<;>decide
  have hll:=hW.1;have e1:=fun o=>uU (o:=o) hL
  have e2:=fun o=>xi (o:=o) hL
  have e3:=fun o=>AB (N:=N) (o:=o) hH
  have e4:=fun o o'=>HG (o:=o) (o':=o') hL
  have hsz:=zp i;have hix:ixV 5 1 false (.agg (lY i.short)) (A_ 3)=some (A_ (qq i.short:Int)):=by cases i.short<;>rfl
  have hcf:∃ M,N+1<=M∧(Dn prog).call fy [.d (.lst (ej l)),.fn nk [] [.ptr 0 0,.ptr N 0]] ⟨H++[(N,.cells [.d (.lst (ej l))])],N+1⟩=some (B_ false,⟨H++[(N,.cells [.d (.lst (ej l))])],M⟩):=by
   have h:=EE (.fn nk [] [.ptr 0 0,.ptr N 0]) (fun _=>false) l o_ (H++[(N,.cells [.d (.lst (ej l))])]) (N+1) rfl rfl fun f hf M hM=>by
    cases l with
    | nil=>simp at hf
    | cons f0 r0 =>
     have:=ajz i f0 r0 f (hW.2 f0 s_ f hf) (H++[(N,.cells [.d (.lst (ej (f0::r0)))])]) 0 N M (e3 _) (e2 _) o_ (Kn (Ma hL) hM)
     simp_all
   grind
  obtain⟨M,hM,e5⟩:=hcf;obtain⟨H2,M2,f2⟩:=ih (j+1) M (H++[(N,.cells [.d (.lst (ej l))])]) (bn hd) (e3 _) (Kn (Ma hL) hM) o_ (fun q hq=>hr q (.tail _ hq));refine⟨H2,M2,?_⟩;simp only[aL.cells]at e3 hsz;rw[ah E6,<-f2];simp (disch:=omega) [↓ac,↓aa,hg,e1,e2,e3,e4,e5,hsz,hix]
def adl (i:aL) (hi:i.Fit) (hm:i.may 11) (t:N_) (ht:Td i t):br prog Kf [.agg i.cells,.d (.lst (cK t))]=some (A_ 0):=by
 have hw:=oi i hi;have hmm:i.many<=8:=by grind [aL.many]
 obtain⟨H2,M,e⟩:=ahJ i t o_ t 0 1 [(0,.cells i.cells)] rfl s_ (fun p hp=>by simp_all) o_ ht.2;have c0:((0:Nat):Int)=0:=rfl;rw[c0]at e;simp only[aL.cells]at hw e;rw[aJ WJ Xs rfl];simp (disch:=omega) [↓ac,hw,e]
def ain (b:C_) (hb:b.length<=600000000) (x:AV) (hx:x=.d (.lst (am b))∨x=.nl∧b=[]) (i:aL) (hi:i.Fit) (hm:i.may 11) (t:N_) (ht:Td i t) (htI:∀ l∈t,∀ f∈l,∀ c∈f.coefs,i64 c):br prog F9 [x,.agg i.cells,.d (.lst (cK t))] =
  some (.tup [.own true 1 (am (b++jl i.short t)),A_ 0]):=by
 have hc:=adl i hi hm t ht;have hmm:i.many<=8:=by grind [aL.many]
 obtain⟨M,e⟩:=axo i t o_ t 0 3 b rfl o_ (fun l hl=>⟨ht.2 l hl,htI l hl⟩) o_;have hcl:br prog nC [x]=some (.own true 1 (am b)):=by
  refine MD x b o_ ?_;rcases hx with rfl | ⟨rfl,rfl⟩<;>rfl
 have hsz:=zp i;have hl5:(lY i.short).length=5:=by cases i.short<;>rfl
 have hall:(lY i.short).all bw=true:=by cases i.short<;>rfl
 have hfm:(lY i.short).map oF=lY i.short:=u_;have c0:((0:Nat):Int)=0:=rfl;rw[c0]at e;simp only[aL.cells,UA,Wv]at hc e hsz;rw[aJ aea adm rfl];rcases hx with rfl | ⟨rfl,rfl⟩
 .simp (disch:=omega) [↓ac,↓aa,hc,hcl,hsz,hl5,hall,hfm,e]
 .simp (disch:=omega) [↓ac,↓aa,hc,hcl,hsz,hl5,hall,hfm,e]
def awz (id:Nat):br prog Q4 [A_ id]=some (A_ (bH id)):=by
 rw[aJ aoQ anT rfl];unfold bH;by_cases h:id<5
 .simp (disch:=omega) [↓ac]
 .simp (disch:=omega) [↓aa]
def sc (d hi:Nat):Nat->Nat->C_
 | 0,_=>[]
 | f+1,x=>if x<hi then x::sc d hi f (x+d) else []
def qJ (os:C_) (d b:Nat):Nat->Nat->C_
 | 0,_=>[]
 | k+1,w=>(sc d (nth os (b+1)) 300 (nth os b)).map (fun x=>w*32+x)++qJ os d b k (w+1)
def zn (os:C_) (d n first:Nat):Nat->Nat->C_
 | 0,_=>[]
 | k+1,b=>qJ os d b n first++zn os d n first k (b+1)
def AD (os:C_) (n first:Nat):P_->Nat->R_
 | [],_=>[]
 | s::r,b=>(if s.book=0∨s.book=13 then [] else (zn os (bH s.book.toNat) n first s.len.toNat b).map fun x=>(s.book.toNat,x))++AD os n first r (b+s.len.toNat)
def qn (os:C_):H_->G_->Nat->R_
 | l::r,n::g,first=>AD os n.toNat first l 0++qn os r g (first+n.toNat)
 | _,_,_=>[]
def kW {σ τ:Type}(st:Nat×Nat->σ->Sum σ τ):R_->σ->Sum σ τ
 | [],s=>.inl s
 | p::r,s=>match st p s with
  | .inl s=>kW st r s
  | .inr z=>.inr z
def Fj {σ τ:Type}{st:Nat×Nat->σ->Sum σ τ}:∀ {l r:R_}{s:σ},kW st (l++r) s=match kW st l s with
  | .inl s=>kW st r s
  | .inr z=>.inr z
 | [],r,s=>rfl
 | p::l,r,s=>by
  rw[aQ,kW,kW]
  cases st p s with
  | inl s=>simp only[Fj]
  | inr z=>rfl
def Rf {σ τ:Type}(hp:σ->ak->ak) (hq:τ->ak->ak) (L l:Nat) (st:Nat×Nat->σ->Sum σ τ) (dk:R_->σ->Prop):Prop :=
 ∀ p r s K o N,dk (p::r) s->L<=K->K<N->
  (∃ s2 M,N<=M∧st p s=.inl s2∧dk r s2∧cf (Dn prog) (.yield l) [.agg [A_ (p.1:Int),A_ (p.2:Int),A_ ((p.2+bH p.1:Nat):Int)]] ⟨hp s [(K,o)],N⟩=some (B_ true,⟨hp s2 [(K,o)],M⟩))∨
  (∃ z M,N<=M∧st p s=.inr z∧cf (Dn prog) (.yield l) [.agg [A_ (p.1:Int),A_ (p.2:Int),A_ ((p.2+bH p.1:Nat):Int)]] ⟨hp s [(K,o)],N⟩=some (B_ false,⟨hq z [(K,o)],M⟩))
structure PlS where
 l:Nat
 p2:Nat
 p3:Nat
 full:H_
 os:C_
abbrev eP (P:PlS) (first g b:Int) (r:aV):aV:=(0,.yield P.l)::(2,.ptr P.p2 0)::(3,.ptr P.p3 0)::(5,A_ first)::(6,A_ g)::(8,A_ b)::r
abbrev JU (P:PlS) (g:Int) (r:aV):aV:=(14,.d (.lst (bD P.full)))::(15,A_ P.full.length)::(16,A_ g)::r
abbrev Rc (ls:P_) (k:Int):aV:=[(21,.d (.lst (gI ls))),(22,A_ ls.length),(23,A_ k)]
section
variable {σ τ:Type}{hp:σ->ak->ak}{hq:τ->ak->ak}{L:Nat}{P:PlS}{st:Nat×Nat->σ->Sum σ τ}{dk:R_->σ->Prop}
def aBe (H:Tl hp L) (H2:Tl hq L) (hY:Rf hp hq L P.l st dk) (hg3:∀ s T,get (hp s T) P.p3=some (.cells [.own false 1 (cR P.os)])) (s0:aU) (bk:Nat) (hbk:s0.book=bk) (hb1:1<=bk∧bk<=11) (b:Nat) (hb:b+1<P.os.length) (ho:P.os.length<=100) (hhi:nth P.os (b+1)<=256) (first g en gi k:Int) (w:Nat) (hw:w<=8) (ls:P_) (K:Nat) (hK:L<=K) (rest:R_):∀ (f x N:Nat) (s:σ),nth P.os (b+1)<=x+f->x<=300->K<N->dk ((sc (bH bk) (nth P.os (b+1)) f x).map (fun y=>(bk,w*32+y))++rest) s->
  (∃ s2 M,N<=M∧kW st ((sc (bH bk) (nth P.os (b+1)) f x).map (fun y=>(bk,w*32+y))) s=.inl s2∧dk rest s2∧
   (Dn prog).code (.loop mZ) ⟨eP P first g b ((10,.ptr K 0)::(11,A_ en)::(12,A_ w)::(13,A_ x)::JU P gi (Rc ls k)),⟨hp s [(K,.cells [A_ s0.book,A_ s0.len])],N⟩⟩ =
   some (.exit 8,⟨eP P first g b ((10,.ptr K 0)::(11,A_ en)::(12,A_ w)::JU P gi (Rc ls k)),⟨hp s2 [(K,.cells [A_ s0.book,A_ s0.len])],M⟩⟩))∨
  (∃ z M,N<=M∧kW st ((sc (bH bk) (nth P.os (b+1)) f x).map (fun y=>(bk,w*32+y))) s=.inr z∧
   (Dn prog).code (.loop mZ) ⟨eP P first g b ((10,.ptr K 0)::(11,A_ en)::(12,A_ w)::(13,A_ x)::JU P gi (Rc ls k)),⟨hp s [(K,.cells [A_ s0.book,A_ s0.len])],N⟩⟩ =
   some (.ret,⟨[],⟨hq z [],M⟩⟩)):=by
 have hG:=fun s o=>H.get s K o hK
 have hD2:=fun s o=>H2.del s K o hK
 have hd4:bH bk<=4∧2<=bH bk:=by grind [bH]
 have hdim:=awz bk;have hgo:(cR P.os)[b+1]?=some [.int .i64 (nth P.os (b+1):Nat)]:=En hb;have hne:cR P.os≠[]:=d_;intro f
 induction f with
 | zero =>
  intro x N s h1 h2 hKN hi;refine .inl ⟨s,N,ai _,rfl,hi,?_⟩;rw[ah mV];simp (disch:=omega) [↓aa,hg3,hgo]
 | succ f ih =>
  intro x N s h1 h2 hKN hi;by_cases hx:x<nth P.os (b+1)
  .rw[sc,ac hx,bZ,aQ]at hi;rw[sc,ac hx,bZ,kW];have c1:((x+bH bk:Nat):Int)=(x:Int)+bH bk:=rfl;have c2:((w*32+x:Nat):Int)=(w:Int)*32+x:=o_;have c3:((w*32+x+bH bk:Nat):Int)=(w:Int)*32+x+bH bk:=o_;rcases hY (bk,w*32+x) _ s K (.cells [A_ s0.book,A_ s0.len]) N hi hK hKN with ⟨s2,M,hM,e1,e2,e3⟩ | ⟨z,M,hM,e1,e3⟩
   .rw[e1];simp only[c2,c3]at e3;have h9:=ih (x+bH bk) M s2 o_ o_ o_ e2;rw[c1]at h9;rw[hbk]at h9 e3⊢;rcases h9 with ⟨s3,M2,hM2,f1,f2,f3⟩ | ⟨z,M2,hM2,f1,f3⟩
    .refine .inl ⟨s3,M2,o_,f1,f2,?_⟩;rw[<-f3,ah mV];simp (disch:=omega) [↓ac,hg3,hgo,hG,hdim,-lW,e3]
    .refine .inr ⟨z,M2,o_,f1,?_⟩;rw[<-f3,ah mV];simp (disch:=omega) [↓ac,hg3,hgo,hG,hdim,-lW,e3]
   .rw[e1];simp only[c2,c3]at e3;rw[hbk]at e3⊢;refine .inr ⟨z,M,hM,rfl,?_⟩;rw[ah mV];simp (disch:=omega) [↓ac,hg3,hgo,hG,hdim,-lW,e3,hD2]
  .rw[sc,aa hx]at hi;rw[sc,aa hx];refine .inl ⟨s,N,ai _,rfl,hi,?_⟩;rw[ah mV];simp (disch:=omega) [↓aa,hg3,hgo]
def aAf (i:aL) (hil:i.groups.length<=1000) (H:Tl hp L) (H2:Tl hq L) (hY:Rf hp hq L P.l st dk) (hg2:∀ s T,get (hp s T) P.p2=some (.cells i.cells)) (hg3:∀ s T,get (hp s T) P.p3=some (.cells [.own false 1 (cR P.os)])) (s0:aU) (bk:Nat) (hbk:s0.book=bk) (hb1:1<=bk∧bk<=11) (b:Nat) (hb:b+1<P.os.length) (ho:P.os.length<=100) (hhi:∀ x∈P.os,x<=256) (first n g:Nat) (hgl:g<i.groups.length) (hn:nth i.groups g=n) (hfn:first+n<=8) (en gi k:Int) (ls:P_) (K:Nat) (hK:L<=K) (rest:R_):∀ (j w N:Nat) (s:σ),w+j=first+n->K<N->dk ((qJ P.os (bH bk) b j w).map (fun y=>(bk,y))++rest) s->
  (∃ s2 M,N<=M∧kW st ((qJ P.os (bH bk) b j w).map (fun y=>(bk,y))) s=.inl s2∧dk rest s2∧
   (Dn prog).code (.loop ni) ⟨eP P first g b ((10,.ptr K 0)::(11,A_ en)::(12,A_ w)::JU P gi (Rc ls k)),⟨hp s [(K,.cells [A_ s0.book,A_ s0.len])],N⟩⟩ =
   some (.exit 6,⟨eP P first g b ((10,.ptr K 0)::(11,A_ en)::JU P gi (Rc ls k)),⟨hp s2 [(K,.cells [A_ s0.book,A_ s0.len])],M⟩⟩))∨
  (∃ z M,N<=M∧kW st ((qJ P.os (bH bk) b j w).map (fun y=>(bk,y))) s=.inr z∧
   (Dn prog).code (.loop ni) ⟨eP P first g b ((10,.ptr K 0)::(11,A_ en)::(12,A_ w)::JU P gi (Rc ls k)),⟨hp s [(K,.cells [A_ s0.book,A_ s0.len])],N⟩⟩ =
   some (.ret,⟨[],⟨hq z [],M⟩⟩)):=by
 have hgo:(cR P.os)[b]?=some [.int .i64 (nth P.os b:Nat)]:=En o_;have hob:=hhi (nth P.os b) (jg o_);have hob1:=hhi (nth P.os (b+1)) (jg hb);simp only[aL.cells]at hg2;intro j
 induction j with
 | zero =>
  intro w N s h1 hKN hi;refine .inl ⟨s,N,ai _,rfl,hi,?_⟩;rw[ah rD];simp (disch:=omega) [↓aa,hg2,hn]
 | succ j ih =>
  intro w N s h1 hKN hi;have c1:((w+1:Nat):Int)=(w:Int)+1:=rfl;have em:(qJ P.os (bH bk) b (j+1) w).map (fun y=>(bk,y))=(sc (bH bk) (nth P.os (b+1)) 300 (nth P.os b)).map (fun y=>(bk,w*32+y))++(qJ P.os (bH bk) b j (w+1)).map (fun y=>(bk,y)):=by
   simp_all [qJ]
  rw[em]at hi⊢;rw[aA]at hi;rw[Fj];rcases aBe H H2 hY hg3 s0 bk hbk hb1 b hb ho hob1 first g en gi k w o_ ls K hK _ 300 (nth P.os b) N s o_ o_ hKN hi with ⟨s2,M,hM,e1,e2,e3⟩ | ⟨z,M,hM,e1,e3⟩
  .rw[e1];have h9:=ih (w+1) M s2 o_ o_ e2;rcases h9 with ⟨s3,M2,hM2,f1,f2,f3⟩ | ⟨z,M2,hM2,f1,f3⟩
   .refine .inl ⟨s3,M2,o_,f1,f2,?_⟩;rw[<-f3,ah rD];simp (disch:=omega) [↓ac,hg2,hg3,hgo,hn,e3]
   .refine .inr ⟨z,M2,o_,f1,?_⟩;rw[<-f3,ah rD];simp (disch:=omega) [↓ac,hg2,hg3,hgo,hn,e3]
  .rw[e1];refine .inr ⟨z,M,hM,rfl,?_⟩;rw[ah rD];simp (disch:=omega) [↓ac,hg2,hg3,hgo,hn,e3]
def aAR (i:aL) (hil:i.groups.length<=1000) (H:Tl hp L) (H2:Tl hq L) (hY:Rf hp hq L P.l st dk) (hg2:∀ s T,get (hp s T) P.p2=some (.cells i.cells)) (hg3:∀ s T,get (hp s T) P.p3=some (.cells [.own false 1 (cR P.os)])) (s0:aU) (bk:Nat) (hbk:s0.book=bk) (hb1:bk<=11∨bk=13) (ho:P.os.length<=100) (hhi:∀ x∈P.os,x<=256) (first n g:Nat) (hgl:g<i.groups.length) (hn:nth i.groups g=n) (hfn:first+n<=8) (en:Nat) (hen:en<P.os.length) (gi k:Int) (ls:P_) (K:Nat) (hK:L<=K) (rest:R_):∀ (j b N:Nat) (s:σ),b+j=en->K<N->dk ((if bk=0∨bk=13 then [] else (zn P.os (bH bk) n first j b).map (fun y=>(bk,y)))++rest) s->
  (∃ s2 M,N<=M∧kW st (if bk=0∨bk=13 then [] else (zn P.os (bH bk) n first j b).map (fun y=>(bk,y))) s=.inl s2∧dk rest s2∧
   (Dn prog).code (.loop nj) ⟨eP P first g b ((10,.ptr K 0)::(11,A_ en)::JU P gi (Rc ls k)),⟨hp s [(K,.cells [A_ s0.book,A_ s0.len])],N⟩⟩ =
   some (.exit 4,⟨eP P first g en (JU P gi (Rc ls k)),⟨hp s2 [],M⟩⟩))∨
  (∃ z M,N<=M∧kW st (if bk=0∨bk=13 then [] else (zn P.os (bH bk) n first j b).map (fun y=>(bk,y))) s=.inr z∧
   (Dn prog).code (.loop nj) ⟨eP P first g b ((10,.ptr K 0)::(11,A_ en)::JU P gi (Rc ls k)),⟨hp s [(K,.cells [A_ s0.book,A_ s0.len])],N⟩⟩ =
   some (.ret,⟨[],⟨hq z [],M⟩⟩)):=by
 have hG:=fun s o=>H.get s K o hK
 have hD:=fun s o=>H.del s K o hK
 intro j
 induction j with
 | zero =>
  intro b N s h1 hKN hi;have eb:b=en:=o_;subst eb;have e0:(if bk=0∨bk=13 then [] else (zn P.os (bH bk) n first 0 b).map (fun y=>(bk,y)))=[]:=by split<;>rfl
  rw[e0]at hi⊢;refine .inl ⟨s,N,ai _,rfl,hi,?_⟩;rw[ah kC];simp (disch:=omega) [↓aa,hD]
 | succ j ih =>
  intro b N s h1 hKN hi;have c1:((b+1:Nat):Int)=(b:Int)+1:=rfl;by_cases h0:bk=0∨bk=13
  .rw[ac h0]at hi⊢;have h9:=ih (b+1) N s o_ hKN u_;rw[ac h0,c1]at h9;rw[hbk]at h9⊢;rcases h9 with ⟨s3,M2,hM2,f1,f2,f3⟩ | ⟨z,M2,hM2,f1,f3⟩
   .refine .inl ⟨s3,M2,o_,f1,f2,?_⟩;rw[<-f3,ah kC];rcases h0 with h0 | h0<;>simp (disch:=omega) [↓ac,↓aa,hG]
   .refine .inr ⟨z,M2,o_,f1,?_⟩;rw[<-f3,ah kC];rcases h0 with h0 | h0<;>simp (disch:=omega) [↓ac,↓aa,hG]
  .rw[aa h0]at hi⊢;have em:(zn P.os (bH bk) n first (j+1) b).map (fun y=>(bk,y))=(qJ P.os (bH bk) b n first).map (fun y=>(bk,y))++(zn P.os (bH bk) n first j (b+1)).map (fun y=>(bk,y)):=by
    grind [zn]
   rw[em]at hi⊢;rw[aA]at hi;rw[Fj];rcases aAf i hil H H2 hY hg2 hg3 s0 bk hbk o_ b o_ ho hhi first n g hgl hn hfn en gi k ls K hK _ n first N s rfl hKN hi with ⟨s2,M,hM,e1,e2,e3⟩ | ⟨z,M,hM,e1,e3⟩
   .rw[e1];have h9:=ih (b+1) M s2 o_ o_ u_;rw[aa h0,c1]at h9;rw[hbk]at h9 e3⊢;rcases h9 with ⟨s3,M2,hM2,f1,f2,f3⟩ | ⟨z,M2,hM2,f1,f3⟩
    .refine .inl ⟨s3,M2,o_,f1,f2,?_⟩;rw[<-f3,ah kC];simp (disch:=omega) [↓ac,↓aa,hG,e3]
    .refine .inr ⟨z,M2,o_,f1,?_⟩;rw[<-f3,ah kC];simp (disch:=omega) [↓ac,↓aa,hG,e3]
   .rw[e1];refine .inr ⟨z,M,hM,rfl,?_⟩;rw[ah kC];simp (disch:=omega) [↓ac,↓aa,hG,e3]
def aBm (i:aL) (hil:i.groups.length<=1000) (H:Tl hp L) (H2:Tl hq L) (hY:Rf hp hq L P.l st dk) (hg2:∀ s T,get (hp s T) P.p2=some (.cells i.cells)) (hg3:∀ s T,get (hp s T) P.p3=some (.cells [.own false 1 (cR P.os)])) (ho:P.os.length<=100) (hhi:∀ x∈P.os,x<=256) (first n g:Nat) (hgl:g<i.groups.length) (hn:nth i.groups g=n) (hfn:first+n<=8) (gi:Int) (ls:P_) (hls:ls.length<=1000) (rest:R_):∀ (r:P_) (k b N:Nat) (lf:Int) (s:σ),ls.drop k=r->fitsS lf r->(b:Int)+lf<P.os.length->L<=N->dk (AD P.os n first r b++rest) s->
  (∃ s2 M,N<=M∧kW st (AD P.os n first r b) s=.inl s2∧dk rest s2∧
   (Dn prog).code (.loop mY) ⟨eP P first g b (JU P gi (Rc ls k)),⟨hp s [],N⟩⟩ =
   some (.exit 2,⟨(0,.yield P.l)::(2,.ptr P.p2 0)::(3,.ptr P.p3 0)::(5,A_ first)::(6,A_ g)::JU P gi [],⟨hp s2 [],M⟩⟩))∨
  (∃ z M,N<=M∧kW st (AD P.os n first r b) s=.inr z∧
   (Dn prog).code (.loop mY) ⟨eP P first g b (JU P gi (Rc ls k)),⟨hp s [],N⟩⟩ =
   some (.ret,⟨[],⟨hq z [],M⟩⟩)):=by
 intro r
 induction r with
 | nil =>
  intro k b N lf s hd hf hb hN hi;have hk:=bb hd;refine .inl ⟨s,N,ai _,rfl,hi,?_⟩;rw[ah qY];simp (disch:=omega) [↓aa]
 | cons s0 r ih =>
  intro k b N lf s hd hf hb hN hi;have hg:=wZ hd;have hlt:=bv hd;obtain⟨⟨⟨l1,l2⟩,b1,b2⟩,hf2⟩:=hf;obtain⟨bk,hbk⟩:=aB b1;have hbt:s0.book.toNat=bk:=o_;have hif:(s0.book=0∨s0.book=13)↔(bk=0∨bk=13):=o_;have em:AD P.os n first (s0::r) b=(if bk=0∨bk=13 then [] else (zn P.os (bH bk) n first s0.len.toNat b).map (fun y=>(bk,y)))++AD P.os n first r (b+s0.len.toNat):=by
   grind [AD]
  rw[em]at hi⊢;rw[aA]at hi;rw[Fj];have hp1:=fun s o=>H.put s N o hN
  have hp2:=fun s o o'=>H.put2 s N o o' hN
  have hG:=fun s o=>H.get s N o hN
  have c1:((k+1:Nat):Int)=(k:Int)+1:=rfl;have cE:((b+s0.len.toNat:Nat):Int)=(b:Int)+s0.len:=o_;rcases aAR i hil H H2 hY hg2 hg3 s0 bk hbk o_ ho hhi first n g hgl hn hfn (b+s0.len.toNat) o_ gi k ls N hN _ s0.len.toNat b (N+1) s rfl o_ hi with ⟨s2,M,hM,e1,e2,e3⟩ | ⟨z,M,hM,e1,e3⟩
  .rw[e1];have h9:=ih (k+1) (b+s0.len.toNat) M (lf-s0.len) s2 (bn hd) hf2 o_ o_ e2;rw[c1,cE]at h9;rw[cE]at e3;rcases h9 with ⟨s3,M2,hM2,f1,f2,f3⟩ | ⟨z,M2,hM2,f1,f3⟩
   .refine .inl ⟨s3,M2,o_,f1,f2,?_⟩;rw[<-f3,ah qY];simp (disch:=omega) [↓ac,hg,hp1,hp2,hG,e3]
   .refine .inr ⟨z,M2,o_,f1,?_⟩;rw[<-f3,ah qY];simp (disch:=omega) [↓ac,hg,hp1,hp2,hG,e3]
  .rw[e1];rw[cE]at e3;refine .inr ⟨z,M,o_,rfl,?_⟩;rw[ah qY];simp (disch:=omega) [↓ac,hg,hp1,hp2,hG,e3]
def azT (i:aL) (hil:i.groups.length<=1000) (H:Tl hp L) (H2:Tl hq L) (hY:Rf hp hq L P.l st dk) (hg2:∀ s T,get (hp s T) P.p2=some (.cells i.cells)) (hg3:∀ s T,get (hp s T) P.p3=some (.cells [.own false 1 (cR P.os)])) (ho:P.os.length<=100) (hhi:∀ x∈P.os,x<=256) (m:Int) (hm:0<=m∧m<P.os.length) (hfl:P.full.length<=1000) (hlc:∀ l∈P.full,l.length<=1000) (hgg:∀ n∈i.groups,1<=n) (rest:R_):∀ (r:H_) (q:G_) (g first N:Nat) (s:σ),P.full.drop g=r->i.groups.drop g=q->r.length=q.length->fq m r->(first:Int)+q.sum<=8->L<=N->dk (qn P.os r q first++rest) s->
  (∃ s2 M,N<=M∧kW st (qn P.os r q first) s=.inl s2∧dk rest s2∧
   (Dn prog).code (.loop nb) ⟨(0,.yield P.l)::(2,.ptr P.p2 0)::(3,.ptr P.p3 0)::(5,A_ first)::JU P g [],⟨hp s [],N⟩⟩=some (.exit 0,⟨[],⟨hp s2 [],M⟩⟩))∨
  (∃ z M,N<=M∧kW st (qn P.os r q first) s=.inr z∧
   (Dn prog).code (.loop nb) ⟨(0,.yield P.l)::(2,.ptr P.p2 0)::(3,.ptr P.p3 0)::(5,A_ first)::JU P g [],⟨hp s [],N⟩⟩=some (.ret,⟨[],⟨hq z [],M⟩⟩)):=by
 have hg2':=hg2;simp only[aL.cells]at hg2';intro r
 induction r with
 | nil =>
  intro q g first N s hd hd2 hl hf hs hN hi
  have hk:=bb hd;have hq0:q=[]:=d_;subst hq0;refine .inl ⟨s,N,ai _,rfl,hi,?_⟩;rw[ah rC];simp (disch:=omega) [↓aa]
 | cons l r ih =>
  intro q g first N s hd hd2 hl hf hs hN hi
  cases q with
  | nil=>simp at hl
  | cons n0 q =>
   have hg:=kH hd;have hlt:=bv hd;have hlt2:=bv hd2;have hn0:nth i.groups g=n0:=by
    grind [qA]
   have hn1:=hgg n0 (by grind [jg]);obtain⟨n,hn⟩:=aB (show 0<=n0 by omega);have hnt:n0.toNat=n:=o_;have hqs:0<=q.sum:=by
    have:∀ x∈q,1<=x:=fun x hx=>hgg x (by grind)
    have:=mE this;omega
   rw[kD]at hs;have em:qn P.os (l::r) (n0::q) first=AD P.os n first l 0++qn P.os r q (first+n):=by rw[qn,hnt]
   rw[em]at hi⊢;rw[aA]at hi;rw[Fj];have hml:l∈P.full:=by rw[<-aT g P.full,hd];simp
   have c0:((0:Nat):Int)=0:=rfl;have c1:((g+1:Nat):Int)=(g:Int)+1:=rfl;have cF:((first+n:Nat):Int)=(first:Int)+n:=rfl;simp only[aq,rR]at hl;rcases aBm i hil H H2 hY hg2 hg3 ho hhi first n g hlt2 o_ o_ g l (hlc l hml) _ l 0 0 N m s rfl (hf l (.head _)) o_ hN hi with ⟨s2,M,hM,e1,e2,e3⟩ | ⟨z,M,hM,e1,e3⟩
   .rw[e1];have h9:=ih q (g+1) (first+n) M s2 (bn hd) (bn hd2) hl (fun x hx=>hf x (.tail _ hx)) o_ o_ e2;rw[c1,cF]at h9;rw[c0]at e3;rw[hn]at hn0;rcases h9 with ⟨s3,M2,hM2,f1,f2,f3⟩ | ⟨z,M2,hM2,f1,f3⟩
    .refine .inl ⟨s3,M2,o_,f1,f2,?_⟩;rw[<-f3,ah rC];simp (disch:=omega) [↓ac,hg,hg2',hn0,e3]
    .refine .inr ⟨z,M2,o_,f1,?_⟩;rw[<-f3,ah rC];simp (disch:=omega) [↓ac,hg,hg2',hn0,e3]
   .rw[e1];rw[c0]at e3;refine .inr ⟨z,M,hM,rfl,?_⟩;rw[ah rC];simp (disch:=omega) [↓ac,hg,e3]
end
def afC {σ τ:Type}{hp:σ->ak->ak}{hq:τ->ak->ak}{L:Nat}{P:PlS}{st:Nat×Nat->σ->Sum σ τ}{dk:R_->σ->Prop}(i:aL) (hi:i.Fit) (hm:i.may 11) (p1:Nat) (H:Tl hp L) (H2:Tl hq L) (hY:Rf hp hq L P.l st dk) (hg1:∀ s,get (hp s []) p1=some (.cells [.d (.lst (bD P.full))])) (hg2:∀ s T,get (hp s T) P.p2=some (.cells i.cells)) (hg3:∀ s T,get (hp s T) P.p3=some (.cells [.own false 1 (cR P.os)])) (ho:P.os.length<=100) (hhi:∀ x∈P.os,x<=256) (hmo:i.max<P.os.length) (hf:jF i P.full) (N:Nat) (hN:L<=N) (s:σ) (hs:dk (qn P.os P.full i.groups 0) s) :
  (∃ s2 M,N<=M∧kW st (qn P.os P.full i.groups 0) s=.inl s2∧dk [] s2∧(Dn prog).call iT [.yield P.l,.ptr p1 0,.ptr P.p2 0,.ptr P.p3 0] ⟨hp s [],N⟩=some (.tup [],⟨hp s2 [],M⟩))∨
  (∃ z M,N<=M∧kW st (qn P.os P.full i.groups 0) s=.inr z∧(Dn prog).call iT [.yield P.l,.ptr p1 0,.ptr P.p2 0,.ptr P.p3 0] ⟨hp s [],N⟩=some (.tup [],⟨hq z [],M⟩)):=by
 have hmx:=jK hm;obtain⟨g1,g2⟩:=dG hm;have hmm:i.many<=8:=by grind [aL.many]
 have hgl:i.groups.length<=8:=by have:=mE (fun n hn=>(g1 n hn).1);omega
 have hlc:∀ l∈P.full,l.length<=1000:=fun l hl=>by
  rcases Ih (hf.2 l hl) with h | h<;>grind
 have hfl:=hf.1;have c0:((0:Nat):Int)=0:=rfl;have h:=azT i hi.len H H2 hY hg2 hg3 ho hhi i.max ⟨hmx.1,hmo⟩ o_ hlc (fun n hn=>(g1 n hn).1) [] P.full i.groups 0 0 N s rfl rfl hfl hf.2 o_ hN u_;rw[c0]at h;rw[ba aaZ ZY rfl];rcases h with ⟨s2,M,hM,e1,e2,e3⟩ | ⟨z,M,hM,e1,e3⟩
 .refine .inl ⟨s2,M,hM,e1,e2,?_⟩;simp (disch:=omega) [hg1,e3]
 .refine .inr ⟨z,M,hM,e1,?_⟩;simp (disch:=omega) [hg1,e3]
def OG (r:Nat) (hr:r<=11) (i:aL) (y:D) (H:ak) (N:Nat) (hL:Lt H N):(Dn prog).call Qn [A_ r,.agg i.cells,.d y] ⟨H,N⟩=some (.fn iT [] [.ptr (N+1) 0,.ptr N 0,.ptr (N+1+1) 0],⟨H++[(N,.cells i.cells)]++[(N+1,.cells [.d y])]++[(N+1+1,.cells [.own false 1 (cR (offs r i.short))])],N+1+1+1⟩):=by
 have hof:=BX r i.short;rw[ac o_]at hof;have L1:=Ma (o:=.cells i.cells) hL;have L2:=Ma (o:=.cells [.d y]) L1;have e1:=fun o=>uU (o:=o) hL
 have e2:=fun o=>uU (o:=o) L1
 have e3:=fun o=>uU (o:=o) L2
 have e4:=AB (N:=N+1) (o:=.cells [.d y]) (xi (o:=.cells i.cells) hL);have e5:=fun o=>xi (o:=o) L2
 have e6:=fun o o'=>HG (o:=o) (o':=o') L2
 have hsh:i.short=decide (i.seq=2):=rfl;rw[ba aeC aeQ rfl];simp only[aL.cells]at e1 e2 e3 e4 e5 e6⊢;by_cases hs2:i.seq=2
 .rw[decide_eq_true hs2]at hsh;rw[hsh]at hof⊢;simp (disch:=omega) [↓ac,hof,e1,e2,e3,e4,e5,e6,-List.append_assoc]
 .rw[decide_eq_false hs2]at hsh;rw[hsh]at hof⊢;simp (disch:=omega) [↓aa,hof,e1,e2,e3,e4,e5,e6,-List.append_assoc]
abbrev ayQ:D_:=[A_ 0,A_ 0,.nl,.nl]
abbrev qQ (id:Nat):D_:=[A_ id,A_ (bK id),.own false 1 (cR (cg id)),.own false 1 (cR (dC id))]
def G7 (C:D_):Prop:=C.length=48∧∀ id,id<12->sub C (4*id) 4=ayQ∨(1<=id∧sub C (4*id) 4=qQ id)
theorem VA {α:Type}{C:List α}{a k:Nat}(hk:k<4):(sub C a 4)[k]?=C[a+k]?:=by
 simp_all
def RU {α:Type}{C W:List α}{a:Nat}(hw:W.length=4) (ha:a+4<=C.length):sub (aG C a W) a 4=W:=by
 grind [sub,aG,List.drop_eq_nil_of_le]
def adK {α:Type}{C W:List α}{a b:Nat}(hw:W.length=4) (ha:a+4<=C.length) (hb:b+4<=C.length) (h:b+4<=a∨a+4<=b):sub (aG C a W) b 4=sub C b 4:=by
 apply dF
 grind [VA,aG,sub]
def ajM {α:Type}{C W:List α}{a:Nat}(hw:W.length=4) (ha:a+4<=C.length):(aG C a W).length=C.length:=by
 grind [aG]
def asU {C W:D_}{a:Nat}(ha:a+4<=C.length) (h:sub C a 4=W):aG C a W=C:=by
 subst h
 grind [aG,sub,List.take_append_drop]
def abV {C:D_}(h:G7 C) {id:Nat}(hid:1<=id∧id<=11):G7 (aG C (4*id) (qQ id)):=by
 refine⟨by rw[ajM rfl (by rw[h.1];omega)];exact h.1,fun j hj=>?_⟩;by_cases e:j=id
 .subst e;exact .inr ⟨hid.1,RU rfl (by rw[h.1];omega)⟩
 .rw[adK rfl (by rw[h.1];omega) (by rw[h.1];omega) o_];exact h.2 j hj
structure Bk (hp:D_->ak->ak) (A N:Nat):Prop where
 gA:∀ C T,get (hp C T) A=some (.cells C)
 pA:∀ C T C',put (hp C T) A (.cells C')=hp C' T
 pN:∀ C o,put (hp C []) N o=hp C [(N,o)]
 pN2:∀ C o o',put (hp C [(N,o)]) N o'=hp C [(N,o')]
 gN:∀ C o,get (hp C [(N,o)]) N=some o
 dN:∀ C o,del (hp C [(N,o)]) N=hp C []
def RB {hp:D_->ak->ak}{A N:Nat}(H:Bk hp A N) (C:D_) (hC:G7 C) (id:Nat) (hid:1<=id∧id<=11):(Dn prog).call mA [.ptr A 0,A_ id] ⟨hp C [],N⟩=some (nD id,⟨hp (aG C (4*id) (qQ id)) [],N+1⟩):=by
 have hb:=Wn id o_;have h48:=hC.1;have hia:∀ p,JB 12 4 (.ptr p 0) (A_ id)=some (.ptr p (4*id)):=fun p=>by
  grind [ZT,JB,ir,SN]
 rw[ba Zg Zd rfl];rcases hC.2 id o_ with h0 | ⟨_,h1⟩
 .have e0:C[4*id]?=some (A_ 0):=by rw[<-dY (4*id),<-VA o_,h0];rfl
  obtain⟨hl0,e0⟩:=aI.1 e0;have hsm:=RU (C:=C) (W:=qQ id) (a:=4*id) rfl o_;have hsl:=ajM (C:=C) (W:=qQ id) (a:=4*id) rfl o_;simp (disch:=omega) [↓ac,H.gA,H.pA,H.pN,H.pN2,H.gN,H.dN,hia,e0,hb,-aG,-sub,-N9,-ani,hsm,hsl];simp
 .have e0:C[4*id]?=some (A_ id):=by rw[<-dY (4*id),<-VA o_,h1];rfl
  obtain⟨hl0,e0⟩:=aI.1 e0;rw[asU o_ h1];simp (disch:=omega) [↓ac,↓aa,H.gA,H.pN,H.pN2,H.gN,H.dN,hia,e0,-aG,-sub,-N9,-ani,h1];simp
def aaL (l:AA_) (hl:l.length<=100000) (h:ak) (N:Nat):(Dn prog).call AA [.d (.lst (ej l))] ⟨h,N⟩=some (B_ (decide (0<l.length)),⟨h,N⟩):=by
 rw[ba Wy VS rfl];by_cases h0:0<l.length
 .rw[decide_eq_true h0];simp (disch:=omega) [↓ac]
 .rw[decide_eq_false h0];simp (disch:=omega) [↓aa]
def Zv (F:AV) (P:AA_->Bool) (l:N_) (hl:l.length<=1000000000) (h:ak) (N:Nat) (hF:firm (share F)=F) (hc:∀ v∈l,cf (Dn prog) F [.d (.lst (ej v))] ⟨h,N⟩=some (B_ (P v),⟨h,N⟩)):∀ (r:N_) (i:Nat),l.drop i=r->
  (r.any P=true∧∃ k:Nat,(Dn prog).code (.loop fm) ⟨[(0,.d (.lst (cK l))),(1,F),(7,A_ l.length),(8,A_ i)],⟨h,N⟩⟩=some (.ret,⟨[(4,A_ k)],⟨h,N⟩⟩))∨
  (r.any P=false∧(Dn prog).code (.loop fm) ⟨[(0,.d (.lst (cK l))),(1,F),(7,A_ l.length),(8,A_ i)],⟨h,N⟩⟩=some (.exit 0,⟨[],⟨h,N⟩⟩)):=by
 intro r
 induction r with
 | nil =>
  intro i hd;have hi:=bb hd;refine .inr ⟨rfl,?_⟩;rw[ah gO];simp (disch:=omega) [↓aa]
 | cons v r ih =>
  intro i hd;have hg:=tj hd;have hlt:=bv hd;have hv:=hc v (by rw[<-aT i l,hd];simp);have h5:=ih (i+1) (bn hd)
  cases hp:P v with
  | true =>
   rw[hp]at hv;refine .inl ⟨u_,i,?_⟩;rw[ah gO];simp (disch:=omega) [↓ac,hg,hF,hv]
  | false =>
   rw[hp]at hv;rw[eM,hp,na];rcases h5 with ⟨e1,k,e2⟩ | ⟨e1,e2⟩
   .refine .inl ⟨e1,k,?_⟩;rw[ah gO,<-e2];simp (disch:=omega) [↓ac,hg,hF,hv]
   .refine .inr ⟨e1,?_⟩;rw[ah gO,<-e2];simp (disch:=omega) [↓ac,hg,hF,hv]
def Y5 (F:AV) (P:AA_->Bool) (l:N_) (hl:l.length<=1000000000) (h:ak) (N:Nat) (hF:firm (share F)=F) (hF2:firm F=F) (hc:∀ v∈l,cf (Dn prog) F [.d (.lst (ej v))] ⟨h,N⟩=some (B_ (P v),⟨h,N⟩)) :
  (Dn prog).call pQ [.d (.lst (cK l)),F] ⟨h,N⟩=some (B_ (l.any P),⟨h,N⟩):=by
 have h1:=Zv F P l hl h N hF hc l 0 rfl;have c0:((0:Nat):Int)=0:=rfl;rw[c0]at h1;have h2:∃ k:Int,(0<=k↔l.any P=true)∧(Dn prog).call tc [.d (.lst (cK l)),F] ⟨h,N⟩=some (A_ k,⟨h,N⟩):=by
  rcases h1 with ⟨e1,k,e2⟩ | ⟨e1,e2⟩
  .refine⟨k,⟨fun _=>e1,fun _=>by omega⟩,?_⟩;rw[ba tk sZ rfl];simp (disch:=omega) [e2]
  .refine⟨-1,⟨fun h=>by omega,fun h=>by simp_all⟩,?_⟩;rw[ba tk sZ rfl];simp (disch:=omega) [e2]
 obtain⟨k,e1,e2⟩:=h2;rw[ba BH BS rfl]
 cases hp:l.any P with
 | true =>
  have:=e1.2 hp;simp (disch:=omega) [↓ac,hF2,e2]
 | false =>
  have:¬ 0<=k:=fun h=>by simp_all
  simp (disch:=omega) [↓aa,hF2,e2]
def oB (t:N_):Bool:=t.any fun l=>decide (0<l.length)
def Rs (t:N_) (ht:t.length<=100000) (ht2:∀ l∈t,l.length<=100000):br prog L4 [.d (.lst (cK t))]=some (B_ (oB t)):=by
 have h:=Y5 (.fn AA [] []) (fun l=>decide (0<l.length)) t o_ [] 0 rfl rfl fun v hv=>by
  simp_all [aaL]
 rw[aJ aaG Z3 rfl];unfold oB;simp (disch:=omega) [h]
abbrev je:=@List.getElem?_replicate
abbrev jk:=@List.getElem?_take
abbrev ke:=@List.getD_eq_getElem?_getD
def MB {d hi:Nat}(hd:1<=d):∀ {f lo x:Nat},(hi-lo) % d=0->x∈sc d hi f lo->lo<=x∧x+d<=hi∧(x-lo) % d=0
 | 0,lo,x,_,h=>by simp[sc]at h
 | f+1,lo,x,hm,h=>by
  rw[sc]at h;by_cases h1:lo<hi
  .rw[ac h1]at h;have h2:lo+d<=hi:=by
    rcases bB (hi-lo) d with h3 | h3
    .rw[fj h3]at hm;omega
    .omega
   rcases az.1 h with e | e
   .subst e;exact⟨ai _,h2,s_⟩
   .have h4:(hi-(lo+d)) % d=0:=by
     have:hi-lo=hi-(lo+d)+d:=o_;rw[this,Nat.add_mod_right]at hm;exact hm
    have ⟨a,b,c⟩:=MB hd h4 e;refine⟨o_,b,?_⟩;have:x-lo=x-(lo+d)+d:=o_;rw[this,Nat.add_mod_right];exact c
  .rw[aa h1]at h;simp at h
def aaA {os:C_}{d b:Nat}:∀ {k w y:Nat},y∈qJ os d b k w->∃ w' x,w<=w'∧w'<w+k∧x∈sc d (nth os (b+1)) 300 (nth os b)∧y=w'*32+x
 | 0,w,y,h=>by simp[qJ]at h
 | k+1,w,y,h=>by
  rw[qJ,be]at h;rcases h with h | h
  .obtain⟨x,hx,e⟩:=dj.1 h;exact⟨w,x,ai _,o_,hx,e.symm⟩
  .obtain⟨w',x,a,b,c,e⟩:=aaA h;exact⟨w',x,o_,o_,c,e⟩
def SO {os:C_}{d n first:Nat}:∀ {k b y:Nat},y∈zn os d n first k b->∃ b',b<=b'∧b'<b+k∧y∈qJ os d b' n first
 | 0,b,y,h=>by simp[zn]at h
 | k+1,b,y,h=>by
  rw[zn,be]at h;rcases h with h | h
  .exact⟨b,ai _,o_,h⟩
  .obtain⟨b',a,c,e⟩:=SO h;exact⟨b',o_,o_,e⟩
def S4 {os:C_}{n first:Nat}:∀ {r:P_}{b:Nat}{lf:Int}{p:Nat×Nat},fitsS lf r->p∈AD os n first r b->∃ j,(aK r)[j]?=some (p.1:Int)∧(1<=p.1∧p.1<=11)∧p.2∈qJ os (bH p.1) (b+j) n first
 | [],b,lf,p,_,h=>by simp[AD]at h
 | s::r,b,lf,p,hf,h=>by
  obtain⟨⟨⟨l1,l2⟩,b1,b2⟩,hf2⟩:=hf;have eb:aK (s::r)=List.replicate s.len.toNat s.book++aK r:=by rw[aK,aH];rfl
  rw[AD,be]at h;rcases h with h | h
  .by_cases h0:s.book=0∨s.book=13
   .rw[ac h0]at h;simp at h
   .rw[aa h0]at h;obtain⟨y,hy,e⟩:=dj.1 h;subst e;obtain⟨b',c1,c2,c3⟩:=SO hy;refine⟨b'-b,?_,by simp only[];omega,by rw[show b+(b'-b)=b' by omega];exact c3⟩;rw[eb,b9 g_,je,ac o_];simp only[ae];omega
  .obtain⟨j,a,c,e⟩:=S4 hf2 h;refine⟨s.len.toNat+j,?_,c,by rw[<-dy];exact e⟩;rw[eb,cw s_,bi,fS];exact a
def My {os:C_}{m:Int}:∀ {r:H_}{q:G_}{first:Nat}{p:Nat×Nat},fq m r->(∀ n∈q,1<=n)->p∈qn os r q first->∃ (w g j:Nat) (l:P_),r[g]?=some l∧first<=w∧(w:Int)<first+q.sum∧kO q ((w:Int)-first)=g∧(aK l)[j]?=some (p.1:Int)∧(1<=p.1∧p.1<=11)∧∃ x∈sc (bH p.1) (nth os (j+1)) 300 (nth os j),p.2=w*32+x
 | [],q,first,p,_,_,h=>by simp[qn]at h
 | l::r,[],first,p,_,_,h=>by simp[qn]at h
 | l::r,n::q,first,p,hf,hn,h=>by
  have hn1:=hn n (.head _);have hqs:0<=q.sum:=by have:=mE fun x hx=>hn x (.tail _ hx);omega
  rw[qn,be]at h;rw[kD];rcases h with h | h
  .obtain⟨j,a,c,e⟩:=S4 (hf l (.head _)) h;rw[bz]at e;obtain⟨w,x,e1,e2,e3,e4⟩:=aaA e;refine⟨w,0,j,l,rfl,e1,o_,?_,a,c,x,e3,e4⟩;rw[kO,ac o_]
  .obtain⟨w,g,j,l',e1,e2,e3,e4,e5,e6,e7⟩:=My (fun x hx=>hf x (.tail _ hx)) (fun x hx=>hn x (.tail _ hx)) h;refine⟨w,g+1,j,l',by simpa using e1,o_,o_,?_,e5,e6,e7⟩;rw[kO,aa o_];have:(w:Int)-first-n=(w:Int)-((first+n.toNat:Nat):Int):=o_
   rw[this,e4]
def nT:∀ x∈Hj,((List.range ((offs x.1 x.2).length-1)).all fun j=>decide (nth (offs x.1 x.2) j<nth (offs x.1 x.2) (j+1)) && decide ((nth (offs x.1 x.2) (j+1)-nth (offs x.1 x.2) j) % 4=0))=true∧nth (offs x.1 x.2) 0=0∧(offs x.1 x.2).all (fun y=>decide (y<=cond x.2 32 256))=true:=e_
def RN {tl:C_}{bks:G_}:∀ {ls:G_}{i j:Nat}{v:Int},xe tl bks i ls->ls[j]?=some v->MX tl bks (i+j) v
 | [],i,j,v,_,h=>by simp at h
 | u::r,i,0,v,h,e=>by
  simp only[b7,ae]at e;subst e;exact h.1
 | u::r,i,j+1,v,h,e=>by
  have:=RN (j:=j) h.2 (by simpa using e);rw[show i+(j+1)=i+1+j by omega];exact this
def Sa {r:Nat}{c:cu}:∀ {k w w':Nat},IJ r c k w->w<=w'->w'<w+k->xe ((offs r c.info.short).drop 1) (aK (xg c w')) 0 (yw c w')
 | 0,w,w',_,h1,h2=>by omega
 | k+1,w,w',h,h1,h2=>by
  rcases bB w w' with h3 | h3
  .exact Sa h.2 h3 (by omega)
  .have:w'=w:=o_;subst this;exact h.1
def ahO {os:C_}{b i:Nat}(hs:∀ j,j+1<os.length->nth os j<nth os (j+1)) (hb:b+1<os.length) (h1:nth os b<=i) (h2:i<nth os (b+1)):kq (os.drop 1) i=b:=by
 have hmono:∀ k j,j+k<os.length->nth os j<=nth os (j+k):=by
  intro k
  induction k with
  | zero=>intro j _;exact ai _
  | succ k ih =>
   intro j hj;have a:=ih j o_;have b:=hs (j+k) o_;rw[show j+(k+1)=j+k+1 by omega];omega
 have hlen:(os.drop 1).length=os.length-1:=s_;rw[XA (b:=b) o_ ?_]
 .have hdd:(os.drop 1).drop b=os.drop (b+1):=by rw[jC];congr 1;omega
  rw[hdd,qA hb,kq,aa o_];rfl
 .intro x hx;obtain⟨j,hj,e⟩:=ie.1 hx;have hj2:j<b:=by have:=hj;simp only[di]at this;omega
  rw[rH,List.getElem_drop]at e;have hn:nth os (1+j)=x:=by
   have h9:=AS (l:=os) (i:=1+j) o_;rw[bE o_,e]at h9;injection h9 with h9;exact h9.symm
  have:=hmono (b-(1+j)) (1+j) o_;rw[show 1+j+(b-(1+j))=b by omega]at this;omega
def Rj {r:Nat}{c:cu}(hc:c.Fit) (h:mR r c) (hr:r<=11) {p:Nat×Nat}(hp:p∈qn (offs r c.info.short) c.sects c.info.groups 0):(1<=p.1∧p.1<=11)∧p.2+bH p.1<=256∧OJ p.1 ((c.lines.drop p.2).take (bH p.1)):=by
 have hm11:=gh hr h.info;obtain⟨g1,g2⟩:=dG hm11;obtain⟨w,g,j,l,e1,e2,e3,e4,e5,e6,x,e7,e8⟩:=My h.sects.2 (fun n hn=>(g1 n hn).1) hp;obtain⟨o1,o2,o3⟩:=nT (r,c.info.short) (fp o_);simp only at o1 o2 o3;have hmx:=h.info.2.2.2.1;have hlm:l∈c.sects:=eE e1;have hbl:=ta (h.sects.2 l hlm) h.info.2.2.1;have hjl:j<(aK l).length:=(aI.1 e5).1;have hmy:qO r (decide (c.info.seq=2))=(offs r c.info.short).length-1:=rfl;have hj1:j+1<(offs r c.info.short).length:=o_;have hoj:nth (offs r c.info.short) j<nth (offs r c.info.short) (j+1)∧(nth (offs r c.info.short) (j+1)-nth (offs r c.info.short) j) % 4=0:=by
  have:=bG.1 o1 j (dR.2 o_);simpa using this
 have hos:∀ k,k+1<(offs r c.info.short).length->nth (offs r c.info.short) k<nth (offs r c.info.short) (k+1):=fun k hk=>by
  have:=bG.1 o1 k (dR.2 o_);simp only[af,decide_eq_true_eq]at this;exact this.1
 have hd4:bH p.1=4∨bH p.1=2:=by unfold bH;split<;>simp
 have hx:=MB (d:=bH p.1) o_ (by rcases hd4 with h | h<;>rw[h]<;>omega) e7;have hw:(w:Int)<c.info.many:=o_;have ho256:nth (offs r c.info.short) (j+1)<=cond c.info.short 32 256:=by
  have:=bG.1 o3 _ (jg hj1);simpa using this
 have hcond:(cond c.info.short 32 256:Nat)=c.info.wide:=by
  unfold aL.short aL.wide;by_cases h:c.info.seq=2
  .rw[decide_eq_true h,ac h];rfl
  .rw[decide_eq_false h,aa h];rfl
 rw[hcond]at ho256;have hww:w*32=w*c.info.wide∧w*c.info.wide+c.info.wide<=256:=by
  unfold aL.many at hw;unfold aL.wide;split at hw
  .rename_i h2;rw[ac h2];omega
  .rename_i h2;rw[aa h2];omega
 have hl:=h.lines.1;have hle:p.2+bH p.1<=256:=o_;refine⟨e6,hle,?_,fun v hv=>?_⟩
 .rw[di,dM];omega
 .obtain⟨k,hk,ek⟩:=ie.1 hv;have hk2:k<bH p.1:=by have:=hk;simp only[di]at this;omega
  rw[rH,List.getElem_drop]at ek;have hf:=Sa h.lines.2 (w':=w) o_ o_;have hwl:(yw c w)[x+k]?=some v:=by
   unfold yw;rw[jk,ac o_,b6,show w*c.info.wide+(x+k)=p.2+k by omega,bE o_,ek]
  have hlo:=RN hf hwl;rw[bz]at hlo;have hgr:kO c.info.groups w=g:=by rw[<-e4];congr 1
  have hsa:xg c w=l:=by
   unfold xg;rw[hgr,ke,e1];rfl
  have hba:=ahO (i:=x+k) hos hj1 o_ o_;unfold MX at hlo;rw[hsa,hba,e5]at hlo;rcases hlo with h0 | ⟨k',a1,a2,a3⟩
  .subst h0;simp
  .injection a1 with a1
   subst a1;simpa using a3
abbrev FQ (c:cu) (os:C_) (q:Obj) (C:D_) (v:AV) (T:ak):ak :=
 (0,.cells c.av)::(1,.cells C)::(2,.cells [.ptr 1 0])::(3,.cells [v])::(4,.cells c.info.cells)::(5,.cells [.d (.lst (bD c.sects))])::(6,.cells [.own false 1 (cR os)])::(7,q)::T
abbrev ay8 (x0:AV):aV:=[(0,x0),(6,.ptr 0 0),(11,.ptr 2 0),(12,.ptr 3 0),(86,.fn iT [] [.ptr 5 0,.ptr 4 0,.ptr 6 0])]
abbrev Tr (x0:AV):Obj:=.loop (ay8 x0) [87] wd w7 false none
def wb (c:cu) (p:Nat×Nat):C_:=zX p.1 ((c.lines.drop p.2).take (bH p.1))
def acS {id:Nat}(hid:1<=id∧id<=11) {vs:G_}(hv:OJ id vs):1<=(zX id vs).length∧(zX id vs).length<=200:=by
 have hok:ju id:=o_;obtain⟨m1,m2,m3,m4⟩:=Cc id (Tw hid);obtain⟨f1,f2⟩:=Nq hid hv;have hd4:bH id<=4:=by unfold bH;split<;>omega
 have hvl:=hv.1;have hv8:∀ v∈vs,v.natAbs<=8191:=fun v h=>aM (hv.2 v h) m4
 have hmany:bm id=cx id ^ d9 id:=rfl;unfold zX;by_cases hs:kA id=true
 .have hin:=f1 hs;have hlt:=Ht (n:=0) (j:=0) hin.2 s_;rw[bz,hin.1,<-hmany]at hlt;have:=AQ hok hlt;rw[ac hs];omega
 .have hin:=f2 (by simpa using hs);have hlt:=Ht (n:=0) (j:=0) hin.2 s_;rw[bz,hin.1,<-hmany]at hlt;have:=AQ hok hlt;have hsl:=af5 (vs:=vs);have hel:=VM (id:=id) hv8;rw[aa hs];simp only[al];omega
def ax4 {m:Nat}{xs ys:E_}(hl:xs.length+ys.length<=1000000000):∃ v,(∀ h,eC m h (aD m xs) ys=some (v,h))∧firm v=aD m (xs++ys):=by
 obtain⟨v,h1,h2⟩:=aoO (m:=m) (h:=[]) hl;refine⟨v,fun h=>?_,h2⟩
 cases xs with
 | nil =>
  cases ys with
  | nil=>injection h1 with h1;injection h1 with h1;subst h1;rfl
  | cons y r =>
   simp only[qB,awk,Z8,aW]at h1⊢;split at h1
   .rename_i h9;rw[ac h9];injection h1 with h1;injection h1 with h1;subst h1;rfl
   .exact absurd h1 (by simp)
 | cons x r =>
  simp only[acO,aj1,Z8,ajW,akl,aW]at h1⊢;split at h1
  .rename_i h9;rw[ac h9];split at h1
   .rename_i h8;rw[ac h8];split at h1
    .rename_i h7;rw[ac h7];injection h1 with h1;injection h1 with h1;subst h1;rfl
    .exact absurd h1 (by simp)
   .exact absurd h1 (by simp)
  .exact absurd h1 (by simp)
def aDU (c:cu) (hl:c.lines.length=256) (os:C_) (x0:AV) (hx0:share x0=x0) (p:Nat×Nat) (hp:(1<=p.1∧p.1<=11)∧p.2+bH p.1<=256∧OJ p.1 ((c.lines.drop p.2).take (bH p.1))) (C:D_) (hC:G7 C) (acc:C_) (hacc:acc.length<=900000000) (K:Nat) (o:Obj) (hK:8<=K) (N:Nat) (hN:K<N) :
  cf (Dn prog) (.yield 7) [.agg [A_ (p.1:Int),A_ (p.2:Int),A_ ((p.2+bH p.1:Nat):Int)]] ⟨FQ c os (Tr x0) C (aD 1 (am acc)) [(K,o)],N⟩=some (B_ true,⟨FQ c os (Tr x0) (aG C (4*p.1) (qQ p.1)) (aD 1 (am (acc++wb c p))) [(K,o)],N+1+1⟩):=by
 obtain⟨h1,h2,h3⟩:=hp;have hH:=aqN [] s_ .nl (.inr ⟨rfl,rfl⟩) p.1 h1 _ h3;have hhl:=acS h1 h3;rw[aO]at hH;have hsl:=fun h=>ae9 (h:=h) (l:=c.lines) (a:=p.2) (b:=p.2+bH p.1) o_ o_ (p.2:Int) ((p.2+bH p.1:Nat):Int) rfl rfl
 simp only[fS]at hsl;have hBk:Bk (fun C T=>FQ c os (.loop (ay8 x0) [87] wd w7 true none) C (aD 1 (am acc)) ([(K,o),(N,.cells [A_ (p.1:Int),A_ (p.2:Int),A_ ((p.2+bH p.1:Nat):Int)])]++T)) 1 (N+1):=by
  have hK0:K≠0∧K≠1∧K≠2:=o_;constructor
  .intro C T;simp
  .intro C T C';simp
  .intro C o;simp (disch:=omega) [↓aa]
  .intro C o o';simp (disch:=omega) [↓aa]
  .intro C o;simp (disch:=omega) [↓aa]
  .intro C o;simp (disch:=omega) [↓aa]
 have hB:=RB hBk C hC p.1 h1;generalize aG C (4*p.1) (qQ p.1)=C2 at *;have hbl:(am (wb c p)).length=(wb c p).length:=cT;have hba:(am acc).length=acc.length:=cT;obtain⟨wv,hw1,hw2⟩:=ax4 (m:=1) (xs:=am acc) (ys:=am (wb c p)) (by unfold wb;unfold wb at hbl;omega);have hne:am (acc++wb c p)≠[]:=by
  intro h;have:=bl List.length h;rw[cT,al,bu]at this;unfold wb at this;omega
 rw[af0,lx hne]at hw2;rw[lx hne];have hLB:zX p.1 ((c.lines.drop p.2).take (bH p.1))=wb c p:=rfl;rw[hLB]at hH;simp only[nD,bg]at hB hH;simp only[FQ,cu.av,aL.cells,aQ,aO,Qm,R6]at hB⊢;generalize wb c p=LB at *;generalize (c.lines.drop p.2).take (bH p.1)=LS at *;generalize ((p.2+bH p.1:Nat):Int)=TO at *;simp (config := { maxSteps:=1000000 }) (disch:=omega) [Qm,R6,↓ac,↓aa,hx0,hsl,hH,hB,hw1,hw2]
def aAU (c:cu) (hl:c.lines.length=256) (os:C_) (x0:AV) (hx0:share x0=x0) (TOT:C_) (hT:TOT.length<=900000000):Rf (fun(s:D_×C_) T=>FQ c os (Tr x0) s.1 (aD 1 (am s.2)) T) noH 8 7 (fun p s=>.inl (aG s.1 (4*p.1) (qQ p.1),s.2++wb c p))
  (fun r s=>G7 s.1∧s.2++r.flatMap (wb c)=TOT∧∀ p∈r,(1<=p.1∧p.1<=11)∧p.2+bH p.1<=256∧OJ p.1 ((c.lines.drop p.2).take (bH p.1))):=by
 intro p r s K o N hi hK hN;obtain⟨i1,i2,i3⟩:=hi;have hp:=i3 p (.head _);have hal:s.2.length<=900000000:=by rw[<-i2,al]at hT;omega
 refine .inl ⟨_,N+1+1,o_,rfl,⟨abV i1 hp.1,?_,fun q hq=>i3 q (.tail _ hq)⟩,aDU c hl os x0 hx0 p hp s.1 i1 s.2 hal K o hK N hN⟩;rw[aH,<-aA]at i2;exact i2
def aDQ {c:cu}{os:C_}{x0:AV}:Tl (fun(s:D_×C_) T=>FQ c os (Tr x0) s.1 (aD 1 (am s.2)) T) 8:=by
 constructor
 .intro s K o h;simp (disch:=omega) [↓aa]
 .intro s K o o' h;simp (disch:=omega) [↓aa]
 .intro s K o h;simp (disch:=omega) [↓aa]
 .intro s K o h;simp (disch:=omega) [↓aa]
def nf (r:Nat) (c:cu):C_:=(qn (offs r c.info.short) c.sects c.info.groups 0).flatMap (wb c)
abbrev uX:D_:=[A_ 0,A_ 0,.nl,.nl,A_ 0,A_ 0,.nl,.nl,A_ 0,A_ 0,.nl,.nl,A_ 0,A_ 0,.nl,.nl,A_ 0,A_ 0,.nl,.nl,A_ 0,A_ 0,.nl,.nl,A_ 0,A_ 0,.nl,.nl,A_ 0,A_ 0,.nl,.nl,A_ 0,A_ 0,.nl,.nl,A_ 0,A_ 0,.nl,.nl,A_ 0,A_ 0,.nl,.nl,A_ 0,A_ 0,.nl,.nl]
def ae0:G7 uX:=by
 refine⟨rfl,fun id hid=>.inl ?_⟩;obtain rfl | rfl | rfl | rfl | rfl | rfl | rfl | rfl | rfl | rfl | rfl | rfl:id=0∨id=1∨id=2∨id=3∨id=4∨id=5∨id=6∨id=7∨id=8∨id=9∨id=10∨id=11:=o_
 all_goals rfl
def aqx (r:Nat) (hr:r<=11) (c:cu) (hc:c.Fit) (h:mR r c) (x0:AV) (hx0:share x0=x0) (hlen:(nf r c).length<=900000000):∃ C2 M,(Dn prog).call iT [.yield 7,.ptr 5 0,.ptr 4 0,.ptr 6 0] ⟨FQ c (offs r c.info.short) (Tr x0) uX .nl [],8⟩=some (.tup [],⟨FQ c (offs r c.info.short) (Tr x0) C2 (aD 1 (am (nf r c))) [],M⟩):=by
 obtain⟨o1,o2,o3,o4⟩:=AE (r,c.info.short) (fp o_);obtain⟨p1,p2,p3⟩:=nT (r,c.info.short) (fp o_);simp only at o1 o2 o3 o4 p1 p2 p3;have hmx:=h.info.2.2.2.1;have hmy:qO r (decide (c.info.seq=2))=(offs r c.info.short).length-1:=rfl;have hhi:∀ x∈offs r c.info.short,x<=256:=fun x hx=>by
  have:=bG.1 p3 x hx;simp only[decide_eq_true_eq]at this;have:(cond c.info.short 32 256:Nat)<=256:=by cases c.info.short<;>decide
  omega
 have hpl:=afC (P:=⟨7,4,6,c.sects,offs r c.info.short⟩) c.info hc.info (gh hr h.info) 5 (aDQ (c:=c) (os:=offs r c.info.short) (x0:=x0)) amw (aAU c h.lines.1 (offs r c.info.short) x0 hx0 (nf r c) hlen) (fun s=>by simp) (fun s T=>by simp) (fun s T=>by simp) t_ hhi t_ h.sects 8 (ai _) (uX,[]) ⟨ae0,by simp only[nf,aO],fun p hp=>Rj hc h hr hp⟩;rcases hpl with ⟨s2,M,hM,e1,⟨e2,e3,e4⟩,e5⟩ | ⟨z,_⟩
 .rw[fY,bg]at e3;rw[e3]at e5;exact⟨s2.1,M,e5⟩
 .exact nomatch z
end Go.Vm
end
