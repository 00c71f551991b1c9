/- Laws, part 8. No condition. -/
import Derived.Test.YtbonllhdlmegeaaGreatDoorL07
set_option linter.all false
set_option maxRecDepth 100000
set_option maxHeartbeats 4000000
noncomputable section
set_option maxHeartbeats 4000000
namespace Go.Va
open Go.Proofs
noncomputable def tbl:Nat→TL
 |0=>[te 15,te 21,te 22,te 23,te 24,te 25]
 |1=>[te 47,te 51,te 52,te 53,te 54,te 55,te 56,te 57,te 60]
 |2=>[te 76,te 77,te 78,te 79]
 |3=>[te 96,te 97,te 98,te 99,te 100,te 101,te 102,te 103,te 104,te 107,te 115,te 122,te 123]
 |4=>[te 129,te 131,te 133,te 134,te 135,te 136,te 137,te 138,te 139,te 140,te 141,te 142,te 143,te 144,te 145,te 146,te 147,te 148,te 149,te 150,te 151,te 152,te 153,te 154,te 155,te 156,te 157,te 159]
 |5=>[te 163,te 164,te 165,te 166,te 171,te 177,te 179,te 181,te 182,te 183,te 184,te 185,te 186,te 187,te 189,te 190,te 191]
 |6=>[te 192,te 193,te 194,te 195,te 196,te 198,te 199,te 200,te 201,te 203,te 204,te 205,te 207,te 208,te 209,te 212,te 213,te 220]
 |7=>[te 224,te 225,te 226,te 227,te 228,te 229,te 230,te 231,te 232,te 233,te 234,te 235,te 236,te 237,te 238,te 239,te 241,te 244,te 245,te 247,te 248,te 249,te 250,te 251,te 252,te 253,te 254,te 255]
 |8=>[te 256,te 259,te 260,te 261,te 262,te 263,te 267,te 268,te 281,te 282,te 283,te 284,te 285]
 |9=>[te 288,te 290,te 291,te 295,te 296,te 297,te 298,te 299,te 300,te 301,te 302,te 303,te 304,te 305,te 308,te 313,te 314,te 315,te 316]
 |10=>[te 322,te 323,te 324,te 325,te 327,te 328,te 329,te 330,te 331,te 332,te 334,te 335,te 344,te 345,te 350]
 |11=>[te 352,te 353,te 354,te 363,te 364,te 365,te 367,te 368,te 369,te 370,te 371,te 372,te 373,te 374,te 375,te 376,te 377,te 378,te 379,te 380,te 381,te 382]
 |12=>[te 385,te 386,te 391,te 392,te 393,te 394,te 398,te 399,te 400,te 401,te 402,te 403,te 411,te 412]
 |13=>[te 418,te 419,te 420,te 421,te 422,te 423,te 424,te 425,te 427,te 429,te 430,te 431,te 432,te 433,te 435,te 436,te 438,te 439,te 441,te 444,te 445,te 446,te 447]
 |14=>[te 448,te 449,te 450,te 451,te 452,te 453,te 454,te 455,te 456,te 464,te 472,te 473,te 474,te 476,te 477]
 |15=>[te 484,te 485,te 486,te 487,te 488,te 489,te 492,te 493,te 495,te 496,te 500,te 502,te 503,te 504,te 507,te 509,te 510,te 511]
 |16=>[te 512,te 513,te 514,te 518,te 521,te 526,te 527,te 530,te 531,te 532,te 534,te 538]
 |17=>[te 546,te 550,te 551,te 552,te 554,te 555,te 572,te 573]
 |18=>[te 585,te 587]
 |_=>[]
theorem tbl_ok (k:Nat):(tbl k).all ck=true:=by
 unfold tbl;split
 all_goals as_aux_lemma=>kernel_rfl
noncomputable def TL7:Tbl:=λf=>lookT (tbl (f/32)) f
theorem TL7_ok:∀f n ac rs,TL7 f=some (n,ac,rs)→chkF Tryz.prog GLx f n ac rs=true:=λf n ac rs h=>lookT_ok (tbl_ok (f/32)) f n ac rs h
def npL (f:Nat):Bool:=[51,115,131,142,390,185,186,195,224,233,234,236,260,314,322,348,369,391,398,403,430,432,456,485,571].any (Nat.beq f)
end Go.Va
