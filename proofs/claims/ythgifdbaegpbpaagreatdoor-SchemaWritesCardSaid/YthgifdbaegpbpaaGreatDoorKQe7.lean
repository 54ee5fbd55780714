/- What the trees compute: plain laws. -/
import Derived.Test.YthgifdbaegpbpaaGreatDoorKQe6
namespace Go.Proofs.YthgifdbaegpbpaaGreatDoor
open Go Go.aP
set_option linter.unusedSimpArgs false
set_option linter.unusedVariables false
set_option maxRecDepth 100000
namespace Q
theorem acO (s:List UInt8) (hs:s.length≤100000000) (x2 x3 x4:GV):∀ (m i:Nat) (r:Nat),i+m=s.length→r < 4294967296→
 TT.lim 161 [.i .u32 (r:Nat),.s s,x2,x3,x4,.i .i64 s.length,.i .i64 i,.i .u32 0,.i .u32 498536548,.i .u32 997073096,.i .u32 651767980,.i .u32 1994146192,.i .u32 1802195444,.i .u32 1303535960,.i .u32 1342533948,.i .u32 3988292384,.i .u32 4027552580,.i .u32 3604390888,.i .u32 3412177804,.i .u32 2607071920,.i .u32 2262029012,.i .u32 2685067896,.i .u32 3183342108]=some [.i .i64 0,.i .u32 (qR r (s.drop i):Nat)]
 | 0,i,r,hi,hr=>by
  have e:s.drop i=[]:=List.drop_eq_nil_of_le (by omega)
  have h:¬ ((i:Int) < s.length):=by omega
  rw [e]
  show _=some [GV.i .i64 0,.i .u32 (r:Nat)]
  refine aA rfl rfl ?_
  simp -implicitDefEqProofs [h]
 | m+1,i,r,hi,hr=>by
  have hlt:i < s.length:=by omega
  have hdr:s.drop i=s[i]::s.drop (i+1):=List.drop_eq_getElem_cons hlt
  have hat:s[i]? = some s[i]:=List.getElem?_eq_getElem hlt
  have hcast:((i+1:Nat):Int)=(i:Int)+1:=by omega
  have hw:=wrap64 (n:=(i:Int)+1) (by omega) (by omega)
  have ih:=acO s hs x2 x3 x4 m (i+1) (xR r s[i].toNat) (by omega) (N9 hr (by have:=s[i].toNat_lt;omega))
  rw [hcast] at ih
  rw [hdr]
  exact ak6 r hr s[i] s x2 x3 x4 s.length i _ (by omega) hat hw ih
theorem acF (a:Nat) (ha:a < 4294967296):bK .xor .u32 4294967295 (a:Int)=some (.i .u32 ((4294967295 - a:Nat):Int)):=by
 show some (GV.i IntKind.u32 (IntKind.u32.wrap ((BitVec.ofInt 32 4294967295 ^^^ BitVec.ofInt 32 (a:Int)).toNat:Int)))=_
 have e:BitVec.ofInt 32 4294967295=BitVec.allOnes 32:=by decide
 rw [e,BitVec.xor_comm,BitVec.xor_allOnes,BitVec.toNat_not,ofInt32 a ha,wrap32 (by omega) (by omega)]
/-- A text's sum. -/
def nD (s:List UInt8):Nat:=4294967295 - qR 4294967295 s
theorem YJ (s:List UInt8):nD s < 4294967296:=by unfold nD;omega
theorem apf:TT.lim 159 []=some [.g [.i .u32 0,.i .u32 498536548,.i .u32 997073096,.i .u32 651767980,.i .u32 1994146192,.i .u32 1802195444,.i .u32 1303535960,.i .u32 1342533948,.i .u32 3988292384,.i .u32 4027552580,.i .u32 3604390888,.i .u32 3412177804,.i .u32 2607071920,.i .u32 2262029012,.i .u32 2685067896,.i .u32 3183342108]]:=FW (Ds:=Ds) (f:=L8) rfl rfl
theorem agU (s:List UInt8) (hs:s.length≤100000000):TT.lim 157 [.l [.s s]]=some [.i .u32 (nD s:Nat)]:=by
 have h0:=acO s hs (.l [.s s]) (.i .i64 1) (.i .i64 0) s.length 0 4294967295 (by omega) (by decide)
 rw [List.drop_zero] at h0
 have h0:TT.lim 161 [.i .u32 4294967295,.s s,.l [.s s],.i .i64 1,.i .i64 0,.i .i64 s.length,.i .i64 0,.i .u32 0,.i .u32 498536548,.i .u32 997073096,.i .u32 651767980,.i .u32 1994146192,.i .u32 1802195444,.i .u32 1303535960,.i .u32 1342533948,.i .u32 3988292384,.i .u32 4027552580,.i .u32 3604390888,.i .u32 3412177804,.i .u32 2607071920,.i .u32 2262029012,.i .u32 2685067896,.i .u32 3183342108]=some [.i .i64 0,.i .u32 (qR 4294967295 s:Nat)]:=h0
 have hlt:=SV s 4294967295 (by decide)
 have hn:=acF (qR 4294967295 s) hlt
 unfold nD
 have ht:=apf
 have w0:IntKind.i64.wrap 1=1:=by decide
 generalize qR 4294967295 s=Z at *
 have h2:TT.lim 160 [.i .u32 (Z:Nat),.l [.s s],.i .i64 1,.i .i64 1,.i .u32 0,.i .u32 498536548,.i .u32 997073096,.i .u32 651767980,.i .u32 1994146192,.i .u32 1802195444,.i .u32 1303535960,.i .u32 1342533948,.i .u32 3988292384,.i .u32 4027552580,.i .u32 3604390888,.i .u32 3412177804,.i .u32 2607071920,.i .u32 2262029012,.i .u32 2685067896,.i .u32 3183342108]=some [.i .i64 0,.i .u32 (Z:Nat)]:=by
  refine aA rfl rfl ?_
  simp
 have h1:TT.lim 160 [.i .u32 4294967295,.l [.s s],.i .i64 1,.i .i64 0,.i .u32 0,.i .u32 498536548,.i .u32 997073096,.i .u32 651767980,.i .u32 1994146192,.i .u32 1802195444,.i .u32 1303535960,.i .u32 1342533948,.i .u32 3988292384,.i .u32 4027552580,.i .u32 3604390888,.i .u32 3412177804,.i .u32 2607071920,.i .u32 2262029012,.i .u32 2685067896,.i .u32 3183342108]=some [.i .i64 0,.i .u32 (Z:Nat)]:=by
  refine aA rfl rfl ?_
  simp -implicitDefEqProofs [h0,w0,h2]
 have hz:bK .xor .u32 4294967295 0=some (.i .u32 4294967295):=acF 0 (by decide)
 have hu:∀n:Int,MS .xor (some (.i .u32 n))=bK .xor .u32 4294967295 n:=fun _=>rfl
 have hov:TT.lim 158 [.i .u32 0,.l [.s s]]=some [.i .u32 (4294967295 - Z:Nat)]:=by
  refine aG rfl rfl ?_ rfl
  simp -implicitDefEqProofs [ht,hu,hz,h1,hn]
 refine aG rfl rfl ?_ rfl
 simp -implicitDefEqProofs [hov]
theorem ady (s:List UInt8) (x2:GV):∀ (m k r:Nat),k+m=8→r < 4294967296→∃z,TT.lim 165 [.s s,.i .u32 (r:Nat),x2,.i .i64 k]=some [.i .i64 0,.i .u32 (z:Nat)]∧z=(List.replicate m ()).foldl (fun r _=>aW r) r
 | 0,k,r,hk,hr=>by
  have hk8:k=8:=by omega
  subst hk8
  refine ⟨r, ?_,rfl⟩
  refine aA rfl rfl ?_
  simp
 | m+1,k,r,hk,hr=>by
  have h:((k:Int) < 8):=by omega
  have hcast:((k+1:Nat):Int)=(k:Int)+1:=by omega
  have hw:=wrap64 (n:=(k:Int)+1) (by omega) (by omega)
  obtain ⟨z,h1,h2⟩:=ady s x2 m (k+1) (aW r) (by omega) (Gf hr)
  rw [hcast] at h1
  refine ⟨z, ?_,h2⟩
  have t1:(r:Int).tmod 2=(r:Int) % 2:=by rw [Int.tmod_eq_emod_of_nonneg (by omega)]
  have t2:(r:Int).tdiv 2=(r:Int) / 2:=by rw [Int.tdiv_eq_ediv_of_nonneg (by omega)]
  have q2:((r / 2:Nat):Int)=(r:Int) / 2:=by omega
  have w1:=wrap32 (n:=(r:Int) / 2) (by omega) (by omega)
  have hx:=x32 (r / 2) 3988292384 (by omega) (by decide)
  rw [q2] at hx
  rw [show ((3988292384:Nat):Int)=3988292384 from rfl] at hx
  unfold aW at h1
  by_cases hp:r % 2=1
  ·rw [if_pos hp] at h1
   have hp':(r:Int) % 2=1:=by omega
   generalize r / 2 ^^^ 3988292384=b at *
   clear q2 hp hr
   generalize (r:Int) % 2=a at *
   generalize (r:Int) / 2=c at *
   refine aA rfl rfl ?_
   simp -implicitDefEqProofs [h,t1,t2,hp',w1,hx,hw,h1]
  ·rw [if_neg hp] at h1
   have hp':¬ (r:Int) % 2=1:=by omega
   rw [q2] at h1
   clear hx q2 hp hr
   generalize (r:Int) % 2=a at *
   generalize (r:Int) / 2=c at *
   refine aA rfl rfl ?_
   simp -implicitDefEqProofs [h,t1,t2,hp',w1,hw,h1]
theorem adx (s:List UInt8) (hs:s.length≤100000000):∀ (m i r:Nat),i+m=s.length→r < 4294967296→TT.lim 164 [.s s,.i .u32 (r:Nat),.i .i64 i]=some [.i .i64 0,.i .u32 (qR r (s.drop i):Nat)]
 | 0,i,r,hi,hr=>by
  have e:s.drop i=[]:=List.drop_eq_nil_of_le (by omega)
  have h:¬ ((i:Int) < s.length):=by omega
  rw [e]
  show _=some [GV.i .i64 0,.i .u32 (r:Nat)]
  refine aA rfl rfl ?_
  simp -implicitDefEqProofs [h]
 | m+1,i,r,hi,hr=>by
  have hlt:i < s.length:=by omega
  have h:((i:Int) < s.length):=by omega
  have hdr:s.drop i=s[i]::s.drop (i+1):=List.drop_eq_getElem_cons hlt
  have hat:s[i]? = some s[i]:=List.getElem?_eq_getElem hlt
  have hc:=s[i].toNat_lt
  have hcast:((i+1:Nat):Int)=(i:Int)+1:=by omega
  have hw:=wrap64 (n:=(i:Int)+1) (by omega) (by omega)
  have ih:=adx s hs m (i+1) (xR r s[i].toNat) (by omega) (N9 hr (by omega))
  rw [hcast] at ih
  have hfold:qR r (s.drop i)=qR (xR r s[i].toNat) (s.drop (i+1)):=by rw [hdr];rfl
  rw [hfold]
  have X:=x32 r s[i].toNat hr (by omega)
  have wc:=wrap32 (n:=(s[i].toNat:Int)) (by omega) (by omega)
  obtain ⟨z,h1,h2⟩:=ady s (.i .i64 i) 8 0 (r ^^^ s[i].toNat) (by omega) (Gv hr (by omega))
  have hz:z=xR r s[i].toNat:=by rw [h2];rfl
  rw [← hz] at ih ⊢
  simp only [Int.natCast_zero] at h1
  clear hz h2 hfold hdr
  generalize s[i]=c at *
  generalize r ^^^ c.toNat=x at *
  generalize qR z (s.drop (i+1))=Q at *
  refine aA rfl rfl ?_
  simp -implicitDefEqProofs [h,hat,wc,X,h1,hw,ih]
theorem amT (s:List UInt8) (hs:s.length≤100000000):TT.lim 163 [.s s]=some [.i .u32 (nD s:Nat)]:=by
 have h0:=adx s hs s.length 0 4294967295 (by omega) (by decide)
 rw [List.drop_zero] at h0
 simp only [Int.natCast_zero] at h0
 have hlt:=SV s 4294967295 (by decide)
 have hcf:((nD s:Nat):Int)=4294967295 - ((qR 4294967295 s:Nat):Int):=by unfold nD;omega
 have hw:=wrap32 (n:=4294967295 - ((qR 4294967295 s:Nat):Int)) (by omega) (by omega)
 rw [hcf]
 generalize qR 4294967295 s=Z at *
 have h0':TT.lim 164 [.s s,.i .u32 4294967295,.i .i64 0]=some [.i .i64 0,.i .u32 (Z:Nat)]:=h0
 refine aG rfl rfl ?_ rfl
 simp -implicitDefEqProofs [h0',hw]
theorem zq (n:Int):IntKind.u8.wrap n=n % 256:=by simp [IntKind.wrap,IntKind.signed,IntKind.bits]
def le4 (n:Nat):List UInt8:=[UInt8.ofNat (n % 256),UInt8.ofNat (n / 256 % 256),UInt8.ofNat (n / 65536 % 256),UInt8.ofNat (n / 16777216 % 256)]
/-- A frame. -/
def EU (p:List UInt8):List UInt8:=[81,70]++aQ p.length++p++le4 (nD p)
theorem abH (n:Nat):jc [.i .u8 ((n:Int) % 256),.i .u8 ((n:Int) / 256 % 256),.i .u8 ((n:Int) / 65536 % 256),.i .u8 ((n:Int) / 16777216 % 256)]=some (le4 n):=by
 have key:∀ (x:Int) (r:List GV),0≤x→x < 256→jc (.i .u8 x::r)=(jc r).map (UInt8.ofNat x.toNat::·):=fun x r h0 h1=>by
  show (if _ then _ else _)=_
  rw [if_pos ⟨h0,h1⟩]
 rw [key _ _ (by omega) (by omega),key _ _ (by omega) (by omega),key _ _ (by omega) (by omega),key _ _ (by omega) (by omega)]
 show some _=_
 unfold le4
 congr 5<;>omega
theorem anB (a:Nat):nS .shr .u32 (a:Int) 8=some (.i .u32 ((a:Int) / 256)):=by
 show some (GV.i IntKind.u32 ((a:Int).fdiv (2 ^ 8)))=_
 rw [Int.fdiv_eq_ediv_of_nonneg _ (by decide)]
 rfl
theorem anx (a:Nat):nS .shr .u32 (a:Int) 16=some (.i .u32 ((a:Int) / 65536)):=by
 show some (GV.i IntKind.u32 ((a:Int).fdiv (2 ^ 16)))=_
 rw [Int.fdiv_eq_ediv_of_nonneg _ (by decide)]
 rfl
theorem anz (a:Nat):nS .shr .u32 (a:Int) 24=some (.i .u32 ((a:Int) / 16777216)):=by
 show some (GV.i IntKind.u32 ((a:Int).fdiv (2 ^ 24)))=_
 rw [Int.fdiv_eq_ediv_of_nonneg _ (by decide)]
 rfl
theorem arE (p:List UInt8) (hp:p.length≤65536):TT.lim 156 [.s p]=some [.s (EU p),.i .i64 0]:=by
 have hc:=agU p (by omega)
 have hlt:=YJ p
 have hv:=qO p.length (by omega)
 have hvl:=fM (n:=p.length) (by omega)
 have wu:=fU (n:=(p.length:Int)) (by omega) (by omega)
 have h1:¬ (65536:Int) < p.length:=by omega
 have c1:(2:Int)+(aQ p.length).length≤9223372036854775807:=by omega
 have c2:((aQ p.length).length:Int)+1+1+p.length≤9223372036854775807:=by omega
 have c3:((aQ p.length).length:Int)+p.length+1+1+4≤9223372036854775807:=by omega
 unfold EU
 have b4:=abH (nD p)
 have l4:(le4 (nD p)).length=4:=rfl
 have s8:=anB (nD p)
 have s16:=anx (nD p)
 have s24:=anz (nD p)
 generalize nD p=n at *
 generalize aQ p.length=V at *
 have w0:=zq (n:Int)
 have w1:=zq ((n:Int) / 256)
 have w2:=zq ((n:Int) / 65536)
 have w3:=zq ((n:Int) / 16777216)
 generalize le4 n=F at *
 generalize (n:Int) % 256=a0 at *
 generalize (n:Int) / 256 % 256=a1 at *
 generalize (n:Int) / 65536 % 256=a2 at *
 generalize (n:Int) / 16777216 % 256=a3 at *
 refine aG rfl rfl ?_ rfl
 simp -implicitDefEqProofs [-List.append_assoc,h1,hc,hv,wu,s8,s16,s24,w0,w1,w2,w3,b4,l4,c1,c2,c3]
theorem amU (p:List UInt8) (hp:p.length≤65536):TT.lim 162 [.s p]=some [.s (EU p)]:=by
 have hc:=amT p (by omega)
 have hlt:=YJ p
 have hv:=qP p.length (by omega)
 have hvl:=fM (n:=p.length) (by omega)
 have wu:=fU (n:=(p.length:Int)) (by omega) (by omega)
 have c1:(2:Int)+(aQ p.length).length≤9223372036854775807:=by omega
 have c2:((aQ p.length).length:Int)+1+1+p.length≤9223372036854775807:=by omega
 have c3:((aQ p.length).length:Int)+p.length+1+1+4≤9223372036854775807:=by omega
 unfold EU
 have b4:=abH (nD p)
 have l4:(le4 (nD p)).length=4:=rfl
 generalize nD p=n at *
 generalize aQ p.length=V at *
 have t0:(n:Int).tmod 256=(n:Int) % 256:=by rw [Int.tmod_eq_emod_of_nonneg (by omega)]
 have d1:(n:Int).tdiv 256=(n:Int) / 256:=by rw [Int.tdiv_eq_ediv_of_nonneg (by omega)]
 have d2:(n:Int).tdiv 65536=(n:Int) / 65536:=by rw [Int.tdiv_eq_ediv_of_nonneg (by omega)]
 have d3:(n:Int).tdiv 16777216=(n:Int) / 16777216:=by rw [Int.tdiv_eq_ediv_of_nonneg (by omega)]
 have t1:((n:Int) / 256).tmod 256=(n:Int) / 256 % 256:=by rw [Int.tmod_eq_emod_of_nonneg (by omega)]
 have t2:((n:Int) / 65536).tmod 256=(n:Int) / 65536 % 256:=by rw [Int.tmod_eq_emod_of_nonneg (by omega)]
 have e1:=wrap32 (n:=(n:Int) / 256) (by omega) (by omega)
 have e2:=wrap32 (n:=(n:Int) / 65536) (by omega) (by omega)
 have e3:=wrap32 (n:=(n:Int) / 16777216) (by omega) (by omega)
 have w0:IntKind.u8.wrap ((n:Int) % 256)=(n:Int) % 256:=by rw [zq];omega
 have w1:IntKind.u8.wrap ((n:Int) / 256 % 256)=(n:Int) / 256 % 256:=by rw [zq];omega
 have w2:IntKind.u8.wrap ((n:Int) / 65536 % 256)=(n:Int) / 65536 % 256:=by rw [zq];omega
 have w3:=zq ((n:Int) / 16777216)
 generalize le4 n=F at *
 generalize (n:Int) / 256 % 256=a1 at *
 generalize (n:Int) / 65536 % 256=a2 at *
 generalize (n:Int) / 16777216 % 256=a3 at *
 generalize (n:Int) / 256=m1 at *
 generalize (n:Int) / 65536=m2 at *
 generalize (n:Int) / 16777216=m3 at *
 generalize (n:Int) % 256=a0 at *
 refine aG rfl rfl ?_ rfl
 simp -implicitDefEqProofs [-List.append_assoc,hc,hv,wu,t0,t1,t2,d1,d2,d3,e1,e2,e3,w0,w1,w2,w3,b4,l4,c1,c2,c3]
theorem ag4 (b:ay) (fl:List aJ) (v:Int):(rD b fl v).1.length≤65536:=by
 unfold rD
 split
 ·split
  ·simp
  ·simp only;omega
 ·simp
theorem ag3 (b:ay) (fl:List aJ) (v:Int) (h:(rD b fl v).2≠0):(rD b fl v).1=[]:=by
 unfold rD at h ⊢
 by_cases c:kJ b fl v=0
 ·rw [if_pos c] at h ⊢
  by_cases d:65536 < (bytesV b fl v).length
  ·rw [if_pos d]
  ·rw [if_neg d] at h;exact absurd rfl h
 ·rw [if_neg c]
set_option maxHeartbeats 4000000 in
theorem schemaWrites (gs:List GV) (h:hasArgs [(true,ac5),(false,[.int .i64])] gs):TT.lim 1 gs=some [.b true]:=by
 obtain ⟨c1,gs,rfl,h1,h⟩:=aiK h
 obtain ⟨v,gs,rfl,h2,h⟩:=aiM h
 obtain rfl:=aiL h
 obtain ⟨b,l,hb,hl,e⟩:=alS h1
 rw [e]
 obtain ⟨v,rfl,hv1,hv2⟩:=Pe h2
 have hf:=ahM b l hb hl
 clear h1 h2 h e hv1 hv2
 cases hfw:CJ b l with
 | false=>
  rw [hfw] at hf
  refine aG rfl rfl ?_ rfl
  simp -implicitDefEqProofs [dF,hf]
 | true=>
 rw [hfw] at hf
 obtain ⟨mo, -,f8⟩:=alT hb hl hfw
 have h60:l.length≤60:=by
  unfold pW at f8
  rw [Bool.and_eq_true,decide_eq_true_iff] at f8
  exact f8.2
 have hsz:=acf l
 have hsh:Short b:=by
  unfold CJ at hfw
  simp only [Bool.and_eq_true,decide_eq_true_iff] at hfw
  exact ⟨hfw.1,hfw.2.1,hfw.2.2.1⟩
 have wo:BG b (jk l):=⟨mo,hsh,by omega,by have:=aj7 l f8;omega⟩
 have hm:=aj2 b l hl f8
 have ho:=acH b (jk l) (OQ mo.d) mo.t mo.f8 mo.len
 have k1:=alj wo v
 have k2:=alX wo v
 have k3:=acT wo v
 have k4:=adn wo v
 have ok:dX (pX b (jk l) v).1∧(pX b (jk l) v).1.length≤1000000:=by
  unfold pX
  by_cases c:kJ b (jk l) v=0
  ·rw [if_pos c];have:=NG wo c;exact ⟨this.ok,this.len⟩
  ·rw [if_neg c];simp [dX]
 have k5:=QK (cO (pX b (jk l) v).1+1) _ (by omega) ok.1 ok.2
 have k6:=adu (cO (pX b (jk l) v).1+1) _ _ (by omega) ok.1 ok.1 ok.2 ok.2
 rw [PZ rfl] at k6
 have hle:=ag4 b (jk l) v
 have hbad:=ag3 b (jk l) v
 have k7:=arE _ hle
 have k8:=amU _ hle
 clear ok wo hsh hsz h60 mo f8 hfw hle hb hl
 generalize rD b (jk l) v=E at *
 generalize pX b (jk l) v=FV at *
 obtain ⟨s,ec⟩:=E
 obtain ⟨fl,fc⟩:=FV
 simp only at *
 generalize ak fl=FG at *
 generalize ak (jk l)=r at *
 generalize EU s=W at *
 by_cases he:ec=0
 ·subst he
  have kf:TT.lim 155 [bH b r,.i .i64 v]=some [.s W,.i .i64 0]:=by
   refine aG rfl rfl ?_ rfl
   simp -implicitDefEqProofs [dF,k1,k7]
  have kg:TT.lim 168 [bH b r,.i .i64 v]=some [.b true]:=by
   refine aG rfl rfl ?_ rfl
   simp -implicitDefEqProofs [dF,k1]
  refine aG rfl rfl ?_ rfl
  simp -implicitDefEqProofs (maxSteps:=10000000) [↓aa6,dF,hf,hm,ho,k1,k2,k3,k4,k5,k6,k8,kf,kg]
 ·have hs:=hbad he
  subst hs
  have kf:TT.lim 155 [bH b r,.i .i64 v]=some [.s [],.i .i64 ec]:=by
   refine aG rfl rfl ?_ rfl
   simp -implicitDefEqProofs [dF,k1,he]
  have kg:TT.lim 168 [bH b r,.i .i64 v]=some [.b false]:=by
   refine aG rfl rfl ?_ rfl
   simp -implicitDefEqProofs [dF,k1,he]
  refine aG rfl rfl ?_ rfl
  simp -implicitDefEqProofs (maxSteps:=10000000) [↓aa6,dF,hf,hm,ho,k1,k2,k3,k4,k5,k6,he,kf,kg]
end Q
end Go.Proofs.YthgifdbaegpbpaaGreatDoor
